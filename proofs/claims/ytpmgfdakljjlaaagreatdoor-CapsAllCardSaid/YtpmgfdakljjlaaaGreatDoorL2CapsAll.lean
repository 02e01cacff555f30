/- The statement messuagelaw11.CapsAll of the seat: for every input the law returns true; the condition: errors.errorType is as the program lays it. -/
import Derived.Test.YtpmgfdakljjlaaaGreatDoorL2B
import Derived.Test.YtpmgfdakljjlaaaGreatDoorSxM7
import Derived.Test.YtpmgfdakljjlaaaGreatDoorL2Qn
import Derived.Test.YtpmgfdakljjlaaaGreatDoorL2Ca
import Derived.Test.YtpmgfdakljjlaaaGreatDoorL2Cr
import Derived.Test.YtpmgfdakljjlaaaGreatDoorL2Cd
import Derived.Test.YtpmgfdakljjlaaaGreatDoorL2Cb
import Derived.Test.YtpmgfdakljjlaaaGreatDoorL2Qe
import Derived.Test.YtpmgfdakljjlaaaGreatDoorL2Qf
import Derived.Test.YtpmgfdakljjlaaaGreatDoorL2Qg
import Derived.Test.YtpmgfdakljjlaaaGreatDoorL2Qh
import Derived.Test.YtpmgfdakljjlaaaGreatDoorPuZ
set_option linter.unusedVariables false
set_option linter.constructorNameAsVariable false
set_option linter.unusedSimpArgs false
open Go Go.Sx
namespace Go.Proofs.YtpmgfdakljjlaaaGreatDoor
open Go.ChangeShapes Go.WideShapes Go.RowKit
set_option maxRecDepth 100000

noncomputable def CapsAll_t : Tree := .call 5 (Go.Sx.L2.yes Go.Sx.L2.f_messuagelaw11_begun).rel [] [] 0 0 (.letI (.cmp .lss (.v 0) (.c 1)) (.ite (.v 4) (.done [] []) (.letI (.cmp .lss (.c 4) (.v 0)) (.ite (.v 5) (.done [] []) (.letI (.mul (.v 0) (.c 32)) (.letL (.rep (.v 6) (.c 0)) (.call 11 (Go.Sx.L2.rKNewV).rel [.v 0] [] 0 1 (.loop [.c (0)] [1, 2] (.letI (.cmp .lss (.v 7) (.v 1)) (.ite (.v 8) (.letI (.cmp .lss (.v 7) (.c 50)) (.ite (.v 9) (.need .lss (.v 7) (.v 1) (.letI (.mul (.v 7) (.c 7)) (.need .lss (.v 10) (.v 3) (.letI (.get 0 (.v 10)) (.letI (.add (.v 10) (.c 1)) (.need .lss (.v 12) (.v 3) (.letI (.get 0 (.v 12)) (.letI (.add (.v 10) (.c 2)) (.need .lss (.v 14) (.v 3) (.letI (.get 0 (.v 14)) (.letI (.add (.v 10) (.c 3)) (.need .lss (.v 16) (.v 3) (.letI (.get 0 (.v 16)) (.letI (.add (.v 10) (.c 4)) (.need .lss (.v 18) (.v 3) (.letI (.get 0 (.v 18)) (.letI (.add (.v 10) (.c 5)) (.need .lss (.v 20) (.v 3) (.letI (.get 0 (.v 20)) (.letI (.add (.v 10) (.c 6)) (.need .lss (.v 22) (.v 3) (.letI (.get 0 (.v 22)) (.letI (.cmp .leq (.c 0) (.v 13)) (.ite (.v 24) (.letI (.cmp .lss (.v 13) (.v 0)) (.ite (.v 25) (.letI (.cmp .leq (.c 0) (.v 15)) (.ite (.v 26) (.letI (.cmp .lss (.v 15) (.c 8)) (.letI (.mx (.c 0) (.v 13)) (.letI (.mn (.v 15) (.c 7)) (.letI (.mx (.c 0) (.v 29)) (.ite (.v 27) (.letI (.mul (.v 28) (.c 40)) (.letI (.add (.c 3) (.v 31)) (.letI (.mul (.v 30) (.c 5)) (.letI (.add (.v 32) (.v 33)) (.letI (.get 4 (.v 34)) (.letI (.cmp .eql (.v 11) (.c 0)) (.ite (.v 36) (.letI (.cmp .lss (.v 23) (.c 0)) (.ite (.v 37) (.call 12 (Go.Sx.L2.cRoot).rel [.v 0, .v 6, .v 13, .v 15, .v 23] [3] 1 1 (.letI (.cmp .neq (.v 38) (.c 2)) (.ite (.v 39) (.exit (.fail 180)) (.call 21 (Go.Sx.L2.lSame).rel [.v 0, .v 6] [5, 4] 0 0 (.letI (.add (.v 7) (.c 1)) (.again [.v 40] [5, 4])))))) (.letI (.cmp .leq (.c 16) (.v 23)) (.ite (.v 38) (.call 12 (Go.Sx.L2.cRoot).rel [.v 0, .v 6, .v 13, .v 15, .v 23] [3] 1 1 (.letI (.cmp .neq (.v 39) (.c 2)) (.ite (.v 40) (.exit (.fail 180)) (.call 21 (Go.Sx.L2.lSame).rel [.v 0, .v 6] [5, 4] 0 0 (.letI (.add (.v 7) (.c 1)) (.again [.v 41] [5, 4])))))) (.ite (.v 35) (.call 12 (Go.Sx.L2.cRoot).rel [.v 0, .v 6, .v 13, .v 15, .v 23] [3] 1 1 (.letI (.cmp .neq (.v 39) (.c 4)) (.ite (.v 40) (.exit (.fail 180)) (.call 21 (Go.Sx.L2.lSame).rel [.v 0, .v 6] [5, 4] 0 0 (.letI (.add (.v 7) (.c 1)) (.again [.v 41] [5, 4])))))) (.letL (.set 4 (.v 34) (.c 1)) (.letI (.add (.v 34) (.c 1)) (.letL (.set 5 (.v 39) (.v 23)) (.letI (.add (.v 34) (.c 2)) (.letL (.set 6 (.v 40) (.c 3)) (.letI (.add (.v 34) (.c 3)) (.letL (.set 7 (.v 41) (.c (-1))) (.letI (.add (.v 34) (.c 4)) (.letL (.set 8 (.v 42) (.c 0)) (.call 12 (Go.Sx.L2.cRoot).rel [.v 0, .v 6, .v 13, .v 15, .v 23] [3] 1 1 (.letI (.cmp .neq (.v 43) (.c 0)) (.ite (.v 44) (.exit (.fail 180)) (.call 21 (Go.Sx.L2.lSame).rel [.v 0, .v 6] [10, 9] 0 0 (.letI (.add (.v 7) (.c 1)) (.again [.v 45] [10, 9])))))))))))))))))))) (.letI (.cmp .eql (.v 11) (.c 1)) (.ite (.v 37) (.call 13 (Go.Sx.L2.lDer).rel [.v 0, .v 11, .v 13, .v 15, .v 17, .v 19, .v 21, .v 23, .v 27] [4] 1 1 (.call 14 (Go.Sx.L2.cDer).rel [.v 0, .v 6, .v 13, .v 15, .v 17, .v 19, .v 21] [3] 1 1 (.letI (.cmp .neq (.v 38) (.v 39)) (.ite (.v 40) (.exit (.fail 180)) (.call 21 (Go.Sx.L2.lSame).rel [.v 0, .v 6] [6, 5] 0 0 (.letI (.add (.v 7) (.c 1)) (.again [.v 41] [6, 5]))))))) (.letI (.cmp .eql (.v 11) (.c 2)) (.ite (.v 38) (.call 15 (Go.Sx.L2.cRevoke).rel [.v 0, .v 6, .v 13, .v 15] [3] 5 2 (.ite (.v 35) (.call 17 (Go.Sx.L2.lGone).rel [.v 28, .v 30, .c (0)] [4] 4 2 (.letI (.cmp .neq (.v 43) (.c 0)) (.ite (.v 48) (.exit (.fail 180)) (.call 18 (Go.Sx.L2.lPlaces).rel [.v 39, .v 40, .v 41, .v 42, .v 44, .v 45, .v 46, .v 47] [5, 7] 1 0 (.letI (.not (.v 49)) (.ite (.v 50) (.exit (.fail 180)) (.call 21 (Go.Sx.L2.lSame).rel [.v 0, .v 6] [6, 8] 0 0 (.letI (.add (.v 7) (.c 1)) (.again [.v 51] [6, 8]))))))))) (.letI (.cmp .neq (.v 43) (.c 3)) (.ite (.v 44) (.exit (.fail 180)) (.letL (.lit []) (.call 18 (Go.Sx.L2.lPlaces).rel [.v 39, .v 40, .v 41, .v 42, .c (0), .c (0), .c (0), .c (0)] [5, 7] 1 0 (.letI (.not (.v 45)) (.ite (.v 46) (.exit (.fail 180)) (.call 21 (Go.Sx.L2.lSame).rel [.v 0, .v 6] [6, 4] 0 0 (.letI (.add (.v 7) (.c 1)) (.again [.v 47] [6, 4]))))))))))) (.letI (.cmp .eql (.v 11) (.c 3)) (.ite (.v 39) (.call 16 (Go.Sx.L2.cDrop).rel [.v 0, .v 6, .v 13, .v 15] [3] 5 2 (.ite (.v 35) (.call 17 (Go.Sx.L2.lGone).rel [.v 28, .v 30, .c (1)] [4] 4 2 (.letI (.cmp .neq (.v 44) (.c 0)) (.ite (.v 49) (.exit (.fail 180)) (.call 18 (Go.Sx.L2.lPlaces).rel [.v 40, .v 41, .v 42, .v 43, .v 45, .v 46, .v 47, .v 48] [5, 7] 1 0 (.letI (.not (.v 50)) (.ite (.v 51) (.exit (.fail 180)) (.call 21 (Go.Sx.L2.lSame).rel [.v 0, .v 6] [6, 8] 0 0 (.letI (.add (.v 7) (.c 1)) (.again [.v 52] [6, 8]))))))))) (.letI (.cmp .neq (.v 44) (.c 3)) (.ite (.v 45) (.exit (.fail 180)) (.letL (.lit []) (.call 18 (Go.Sx.L2.lPlaces).rel [.v 40, .v 41, .v 42, .v 43, .c (0), .c (0), .c (0), .c (0)] [5, 7] 1 0 (.letI (.not (.v 46)) (.ite (.v 47) (.exit (.fail 180)) (.call 21 (Go.Sx.L2.lSame).rel [.v 0, .v 6] [6, 4] 0 0 (.letI (.add (.v 7) (.c 1)) (.again [.v 48] [6, 4]))))))))))) (.ite (.v 35) (.call 19 (Go.Sx.L2.rBelow).rel [.v 28, .v 30] [4] 4 1 (.call 20 (Go.Sx.L2.cBelow).rel [.v 0, .v 6, .v 13, .v 15] [3] 4 1 (.call 18 (Go.Sx.L2.lPlaces).rel [.v 44, .v 45, .v 46, .v 47, .v 40, .v 41, .v 42, .v 43] [6, 5] 1 0 (.letI (.not (.v 48)) (.ite (.v 49) (.exit (.fail 180)) (.call 21 (Go.Sx.L2.lSame).rel [.v 0, .v 6] [3, 4] 0 0 (.letI (.add (.v 7) (.c 1)) (.again [.v 50] [3, 4])))))))) (.call 20 (Go.Sx.L2.cBelow).rel [.v 0, .v 6, .v 13, .v 15] [3] 4 1 (.letL (.lit []) (.call 18 (Go.Sx.L2.lPlaces).rel [.v 40, .v 41, .v 42, .v 43, .c (0), .c (0), .c (0), .c (0)] [5, 6] 1 0 (.letI (.not (.v 44)) (.ite (.v 45) (.exit (.fail 180)) (.call 21 (Go.Sx.L2.lSame).rel [.v 0, .v 6] [3, 4] 0 0 (.letI (.add (.v 7) (.c 1)) (.again [.v 46] [3, 4])))))))))))))))))))))) (.both (.letI (.cmp .eql (.v 11) (.c 0)) (.ite (.v 31) (.call 12 (Go.Sx.L2.cRoot).rel [.v 0, .v 6, .v 13, .v 15, .v 23] [3] 1 1 (.letI (.cmp .neq (.v 32) (.c 2)) (.ite (.v 33) (.exit (.fail 180)) (.call 21 (Go.Sx.L2.lSame).rel [.v 0, .v 6] [5, 4] 0 0 (.letI (.add (.v 7) (.c 1)) (.again [.v 34] [5, 4])))))) (.letI (.cmp .eql (.v 11) (.c 1)) (.ite (.v 32) (.call 13 (Go.Sx.L2.lDer).rel [.v 0, .v 11, .v 13, .v 15, .v 17, .v 19, .v 21, .v 23, .v 27] [4] 1 1 (.call 14 (Go.Sx.L2.cDer).rel [.v 0, .v 6, .v 13, .v 15, .v 17, .v 19, .v 21] [3] 1 1 (.letI (.cmp .neq (.v 33) (.v 34)) (.ite (.v 35) (.exit (.fail 180)) (.call 21 (Go.Sx.L2.lSame).rel [.v 0, .v 6] [6, 5] 0 0 (.letI (.add (.v 7) (.c 1)) (.again [.v 36] [6, 5]))))))) (.letI (.cmp .eql (.v 11) (.c 2)) (.ite (.v 33) (.call 15 (Go.Sx.L2.cRevoke).rel [.v 0, .v 6, .v 13, .v 15] [3] 5 2 (.letI (.cmp .neq (.v 38) (.c 2)) (.ite (.v 39) (.exit (.fail 180)) (.letL (.lit []) (.call 18 (Go.Sx.L2.lPlaces).rel [.v 34, .v 35, .v 36, .v 37, .c (0), .c (0), .c (0), .c (0)] [5, 7] 1 0 (.letI (.not (.v 40)) (.ite (.v 41) (.exit (.fail 180)) (.call 21 (Go.Sx.L2.lSame).rel [.v 0, .v 6] [6, 4] 0 0 (.letI (.add (.v 7) (.c 1)) (.again [.v 42] [6, 4])))))))))) (.letI (.cmp .eql (.v 11) (.c 3)) (.ite (.v 34) (.call 16 (Go.Sx.L2.cDrop).rel [.v 0, .v 6, .v 13, .v 15] [3] 5 2 (.letI (.cmp .neq (.v 39) (.c 2)) (.ite (.v 40) (.exit (.fail 180)) (.letL (.lit []) (.call 18 (Go.Sx.L2.lPlaces).rel [.v 35, .v 36, .v 37, .v 38, .c (0), .c (0), .c (0), .c (0)] [5, 7] 1 0 (.letI (.not (.v 41)) (.ite (.v 42) (.exit (.fail 180)) (.call 21 (Go.Sx.L2.lSame).rel [.v 0, .v 6] [6, 4] 0 0 (.letI (.add (.v 7) (.c 1)) (.again [.v 43] [6, 4])))))))))) (.call 20 (Go.Sx.L2.cBelow).rel [.v 0, .v 6, .v 13, .v 15] [3] 4 1 (.letL (.lit []) (.call 18 (Go.Sx.L2.lPlaces).rel [.v 35, .v 36, .v 37, .v 38, .c (0), .c (0), .c (0), .c (0)] [5, 6] 1 0 (.letI (.not (.v 39)) (.ite (.v 40) (.exit (.fail 180)) (.call 21 (Go.Sx.L2.lSame).rel [.v 0, .v 6] [3, 4] 0 0 (.letI (.add (.v 7) (.c 1)) (.again [.v 41] [3, 4])))))))))))))))) (.letI (.cmp .eql (.v 11) (.c 0)) (.ite (.v 31) (.call 12 (Go.Sx.L2.cRoot).rel [.v 0, .v 6, .v 13, .v 15, .v 23] [3] 1 1 (.letI (.cmp .neq (.v 32) (.c 2)) (.ite (.v 33) (.exit (.fail 180)) (.call 21 (Go.Sx.L2.lSame).rel [.v 0, .v 6] [5, 4] 0 0 (.letI (.add (.v 7) (.c 1)) (.again [.v 34] [5, 4])))))) (.letI (.cmp .eql (.v 11) (.c 1)) (.ite (.v 32) (.call 13 (Go.Sx.L2.lDer).rel [.v 0, .v 11, .v 13, .v 15, .v 17, .v 19, .v 21, .v 23, .v 27] [4] 1 1 (.call 14 (Go.Sx.L2.cDer).rel [.v 0, .v 6, .v 13, .v 15, .v 17, .v 19, .v 21] [3] 1 1 (.letI (.cmp .neq (.v 33) (.v 34)) (.ite (.v 35) (.exit (.fail 180)) (.call 21 (Go.Sx.L2.lSame).rel [.v 0, .v 6] [6, 5] 0 0 (.letI (.add (.v 7) (.c 1)) (.again [.v 36] [6, 5]))))))) (.letI (.cmp .eql (.v 11) (.c 2)) (.ite (.v 33) (.call 15 (Go.Sx.L2.cRevoke).rel [.v 0, .v 6, .v 13, .v 15] [3] 5 2 (.letI (.cmp .neq (.v 38) (.c 2)) (.ite (.v 39) (.exit (.fail 180)) (.letL (.lit []) (.call 18 (Go.Sx.L2.lPlaces).rel [.v 34, .v 35, .v 36, .v 37, .c (0), .c (0), .c (0), .c (0)] [5, 7] 1 0 (.letI (.not (.v 40)) (.ite (.v 41) (.exit (.fail 180)) (.call 21 (Go.Sx.L2.lSame).rel [.v 0, .v 6] [6, 4] 0 0 (.letI (.add (.v 7) (.c 1)) (.again [.v 42] [6, 4])))))))))) (.letI (.cmp .eql (.v 11) (.c 3)) (.ite (.v 34) (.call 16 (Go.Sx.L2.cDrop).rel [.v 0, .v 6, .v 13, .v 15] [3] 5 2 (.letI (.cmp .neq (.v 39) (.c 2)) (.ite (.v 40) (.exit (.fail 180)) (.letL (.lit []) (.call 18 (Go.Sx.L2.lPlaces).rel [.v 35, .v 36, .v 37, .v 38, .c (0), .c (0), .c (0), .c (0)] [5, 7] 1 0 (.letI (.not (.v 41)) (.ite (.v 42) (.exit (.fail 180)) (.call 21 (Go.Sx.L2.lSame).rel [.v 0, .v 6] [6, 4] 0 0 (.letI (.add (.v 7) (.c 1)) (.again [.v 43] [6, 4])))))))))) (.call 20 (Go.Sx.L2.cBelow).rel [.v 0, .v 6, .v 13, .v 15] [3] 4 1 (.letL (.lit []) (.call 18 (Go.Sx.L2.lPlaces).rel [.v 35, .v 36, .v 37, .v 38, .c (0), .c (0), .c (0), .c (0)] [5, 6] 1 0 (.letI (.not (.v 39)) (.ite (.v 40) (.exit (.fail 180)) (.call 21 (Go.Sx.L2.lSame).rel [.v 0, .v 6] [3, 4] 0 0 (.letI (.add (.v 7) (.c 1)) (.again [.v 41] [3, 4])))))))))))))))))))))) (.letI (.mx (.c 0) (.v 13)) (.both (.letI (.cmp .eql (.v 11) (.c 0)) (.ite (.v 28) (.call 12 (Go.Sx.L2.cRoot).rel [.v 0, .v 6, .v 13, .v 15, .v 23] [3] 1 1 (.letI (.cmp .neq (.v 29) (.c 2)) (.ite (.v 30) (.exit (.fail 180)) (.call 21 (Go.Sx.L2.lSame).rel [.v 0, .v 6] [5, 4] 0 0 (.letI (.add (.v 7) (.c 1)) (.again [.v 31] [5, 4])))))) (.letI (.cmp .eql (.v 11) (.c 1)) (.ite (.v 29) (.call 13 (Go.Sx.L2.lDer).rel [.v 0, .v 11, .v 13, .v 15, .v 17, .v 19, .v 21, .v 23, .c (0)] [4] 1 1 (.call 14 (Go.Sx.L2.cDer).rel [.v 0, .v 6, .v 13, .v 15, .v 17, .v 19, .v 21] [3] 1 1 (.letI (.cmp .neq (.v 30) (.v 31)) (.ite (.v 32) (.exit (.fail 180)) (.call 21 (Go.Sx.L2.lSame).rel [.v 0, .v 6] [6, 5] 0 0 (.letI (.add (.v 7) (.c 1)) (.again [.v 33] [6, 5]))))))) (.letI (.cmp .eql (.v 11) (.c 2)) (.ite (.v 30) (.call 15 (Go.Sx.L2.cRevoke).rel [.v 0, .v 6, .v 13, .v 15] [3] 5 2 (.letI (.cmp .neq (.v 35) (.c 2)) (.ite (.v 36) (.exit (.fail 180)) (.letL (.lit []) (.call 18 (Go.Sx.L2.lPlaces).rel [.v 31, .v 32, .v 33, .v 34, .c (0), .c (0), .c (0), .c (0)] [5, 7] 1 0 (.letI (.not (.v 37)) (.ite (.v 38) (.exit (.fail 180)) (.call 21 (Go.Sx.L2.lSame).rel [.v 0, .v 6] [6, 4] 0 0 (.letI (.add (.v 7) (.c 1)) (.again [.v 39] [6, 4])))))))))) (.letI (.cmp .eql (.v 11) (.c 3)) (.ite (.v 31) (.call 16 (Go.Sx.L2.cDrop).rel [.v 0, .v 6, .v 13, .v 15] [3] 5 2 (.letI (.cmp .neq (.v 36) (.c 2)) (.ite (.v 37) (.exit (.fail 180)) (.letL (.lit []) (.call 18 (Go.Sx.L2.lPlaces).rel [.v 32, .v 33, .v 34, .v 35, .c (0), .c (0), .c (0), .c (0)] [5, 7] 1 0 (.letI (.not (.v 38)) (.ite (.v 39) (.exit (.fail 180)) (.call 21 (Go.Sx.L2.lSame).rel [.v 0, .v 6] [6, 4] 0 0 (.letI (.add (.v 7) (.c 1)) (.again [.v 40] [6, 4])))))))))) (.call 20 (Go.Sx.L2.cBelow).rel [.v 0, .v 6, .v 13, .v 15] [3] 4 1 (.letL (.lit []) (.call 18 (Go.Sx.L2.lPlaces).rel [.v 32, .v 33, .v 34, .v 35, .c (0), .c (0), .c (0), .c (0)] [5, 6] 1 0 (.letI (.not (.v 36)) (.ite (.v 37) (.exit (.fail 180)) (.call 21 (Go.Sx.L2.lSame).rel [.v 0, .v 6] [3, 4] 0 0 (.letI (.add (.v 7) (.c 1)) (.again [.v 38] [3, 4])))))))))))))))) (.letI (.cmp .eql (.v 11) (.c 0)) (.ite (.v 28) (.call 12 (Go.Sx.L2.cRoot).rel [.v 0, .v 6, .v 13, .v 15, .v 23] [3] 1 1 (.letI (.cmp .neq (.v 29) (.c 2)) (.ite (.v 30) (.exit (.fail 180)) (.call 21 (Go.Sx.L2.lSame).rel [.v 0, .v 6] [5, 4] 0 0 (.letI (.add (.v 7) (.c 1)) (.again [.v 31] [5, 4])))))) (.letI (.cmp .eql (.v 11) (.c 1)) (.ite (.v 29) (.call 13 (Go.Sx.L2.lDer).rel [.v 0, .v 11, .v 13, .v 15, .v 17, .v 19, .v 21, .v 23, .c (0)] [4] 1 1 (.call 14 (Go.Sx.L2.cDer).rel [.v 0, .v 6, .v 13, .v 15, .v 17, .v 19, .v 21] [3] 1 1 (.letI (.cmp .neq (.v 30) (.v 31)) (.ite (.v 32) (.exit (.fail 180)) (.call 21 (Go.Sx.L2.lSame).rel [.v 0, .v 6] [6, 5] 0 0 (.letI (.add (.v 7) (.c 1)) (.again [.v 33] [6, 5]))))))) (.letI (.cmp .eql (.v 11) (.c 2)) (.ite (.v 30) (.call 15 (Go.Sx.L2.cRevoke).rel [.v 0, .v 6, .v 13, .v 15] [3] 5 2 (.letI (.cmp .neq (.v 35) (.c 2)) (.ite (.v 36) (.exit (.fail 180)) (.letL (.lit []) (.call 18 (Go.Sx.L2.lPlaces).rel [.v 31, .v 32, .v 33, .v 34, .c (0), .c (0), .c (0), .c (0)] [5, 7] 1 0 (.letI (.not (.v 37)) (.ite (.v 38) (.exit (.fail 180)) (.call 21 (Go.Sx.L2.lSame).rel [.v 0, .v 6] [6, 4] 0 0 (.letI (.add (.v 7) (.c 1)) (.again [.v 39] [6, 4])))))))))) (.letI (.cmp .eql (.v 11) (.c 3)) (.ite (.v 31) (.call 16 (Go.Sx.L2.cDrop).rel [.v 0, .v 6, .v 13, .v 15] [3] 5 2 (.letI (.cmp .neq (.v 36) (.c 2)) (.ite (.v 37) (.exit (.fail 180)) (.letL (.lit []) (.call 18 (Go.Sx.L2.lPlaces).rel [.v 32, .v 33, .v 34, .v 35, .c (0), .c (0), .c (0), .c (0)] [5, 7] 1 0 (.letI (.not (.v 38)) (.ite (.v 39) (.exit (.fail 180)) (.call 21 (Go.Sx.L2.lSame).rel [.v 0, .v 6] [6, 4] 0 0 (.letI (.add (.v 7) (.c 1)) (.again [.v 40] [6, 4])))))))))) (.call 20 (Go.Sx.L2.cBelow).rel [.v 0, .v 6, .v 13, .v 15] [3] 4 1 (.letL (.lit []) (.call 18 (Go.Sx.L2.lPlaces).rel [.v 32, .v 33, .v 34, .v 35, .c (0), .c (0), .c (0), .c (0)] [5, 6] 1 0 (.letI (.not (.v 36)) (.ite (.v 37) (.exit (.fail 180)) (.call 21 (Go.Sx.L2.lSame).rel [.v 0, .v 6] [3, 4] 0 0 (.letI (.add (.v 7) (.c 1)) (.again [.v 38] [3, 4])))))))))))))))))))) (.letI (.mn (.v 13) (.c 3)) (.letI (.mn (.v 15) (.c 7)) (.letI (.mx (.c 0) (.v 27)) (.both (.letI (.cmp .eql (.v 11) (.c 0)) (.ite (.v 29) (.call 12 (Go.Sx.L2.cRoot).rel [.v 0, .v 6, .v 13, .v 15, .v 23] [3] 1 1 (.letI (.cmp .neq (.v 30) (.c 2)) (.ite (.v 31) (.exit (.fail 180)) (.call 21 (Go.Sx.L2.lSame).rel [.v 0, .v 6] [5, 4] 0 0 (.letI (.add (.v 7) (.c 1)) (.again [.v 32] [5, 4])))))) (.letI (.cmp .eql (.v 11) (.c 1)) (.ite (.v 30) (.call 13 (Go.Sx.L2.lDer).rel [.v 0, .v 11, .v 13, .v 15, .v 17, .v 19, .v 21, .v 23, .c (0)] [4] 1 1 (.call 14 (Go.Sx.L2.cDer).rel [.v 0, .v 6, .v 13, .v 15, .v 17, .v 19, .v 21] [3] 1 1 (.letI (.cmp .neq (.v 31) (.v 32)) (.ite (.v 33) (.exit (.fail 180)) (.call 21 (Go.Sx.L2.lSame).rel [.v 0, .v 6] [6, 5] 0 0 (.letI (.add (.v 7) (.c 1)) (.again [.v 34] [6, 5]))))))) (.letI (.cmp .eql (.v 11) (.c 2)) (.ite (.v 31) (.call 15 (Go.Sx.L2.cRevoke).rel [.v 0, .v 6, .v 13, .v 15] [3] 5 2 (.letI (.cmp .neq (.v 36) (.c 2)) (.ite (.v 37) (.exit (.fail 180)) (.letL (.lit []) (.call 18 (Go.Sx.L2.lPlaces).rel [.v 32, .v 33, .v 34, .v 35, .c (0), .c (0), .c (0), .c (0)] [5, 7] 1 0 (.letI (.not (.v 38)) (.ite (.v 39) (.exit (.fail 180)) (.call 21 (Go.Sx.L2.lSame).rel [.v 0, .v 6] [6, 4] 0 0 (.letI (.add (.v 7) (.c 1)) (.again [.v 40] [6, 4])))))))))) (.letI (.cmp .eql (.v 11) (.c 3)) (.ite (.v 32) (.call 16 (Go.Sx.L2.cDrop).rel [.v 0, .v 6, .v 13, .v 15] [3] 5 2 (.letI (.cmp .neq (.v 37) (.c 2)) (.ite (.v 38) (.exit (.fail 180)) (.letL (.lit []) (.call 18 (Go.Sx.L2.lPlaces).rel [.v 33, .v 34, .v 35, .v 36, .c (0), .c (0), .c (0), .c (0)] [5, 7] 1 0 (.letI (.not (.v 39)) (.ite (.v 40) (.exit (.fail 180)) (.call 21 (Go.Sx.L2.lSame).rel [.v 0, .v 6] [6, 4] 0 0 (.letI (.add (.v 7) (.c 1)) (.again [.v 41] [6, 4])))))))))) (.call 20 (Go.Sx.L2.cBelow).rel [.v 0, .v 6, .v 13, .v 15] [3] 4 1 (.letL (.lit []) (.call 18 (Go.Sx.L2.lPlaces).rel [.v 33, .v 34, .v 35, .v 36, .c (0), .c (0), .c (0), .c (0)] [5, 6] 1 0 (.letI (.not (.v 37)) (.ite (.v 38) (.exit (.fail 180)) (.call 21 (Go.Sx.L2.lSame).rel [.v 0, .v 6] [3, 4] 0 0 (.letI (.add (.v 7) (.c 1)) (.again [.v 39] [3, 4])))))))))))))))) (.letI (.cmp .eql (.v 11) (.c 0)) (.ite (.v 29) (.call 12 (Go.Sx.L2.cRoot).rel [.v 0, .v 6, .v 13, .v 15, .v 23] [3] 1 1 (.letI (.cmp .neq (.v 30) (.c 2)) (.ite (.v 31) (.exit (.fail 180)) (.call 21 (Go.Sx.L2.lSame).rel [.v 0, .v 6] [5, 4] 0 0 (.letI (.add (.v 7) (.c 1)) (.again [.v 32] [5, 4])))))) (.letI (.cmp .eql (.v 11) (.c 1)) (.ite (.v 30) (.call 13 (Go.Sx.L2.lDer).rel [.v 0, .v 11, .v 13, .v 15, .v 17, .v 19, .v 21, .v 23, .c (0)] [4] 1 1 (.call 14 (Go.Sx.L2.cDer).rel [.v 0, .v 6, .v 13, .v 15, .v 17, .v 19, .v 21] [3] 1 1 (.letI (.cmp .neq (.v 31) (.v 32)) (.ite (.v 33) (.exit (.fail 180)) (.call 21 (Go.Sx.L2.lSame).rel [.v 0, .v 6] [6, 5] 0 0 (.letI (.add (.v 7) (.c 1)) (.again [.v 34] [6, 5]))))))) (.letI (.cmp .eql (.v 11) (.c 2)) (.ite (.v 31) (.call 15 (Go.Sx.L2.cRevoke).rel [.v 0, .v 6, .v 13, .v 15] [3] 5 2 (.letI (.cmp .neq (.v 36) (.c 2)) (.ite (.v 37) (.exit (.fail 180)) (.letL (.lit []) (.call 18 (Go.Sx.L2.lPlaces).rel [.v 32, .v 33, .v 34, .v 35, .c (0), .c (0), .c (0), .c (0)] [5, 7] 1 0 (.letI (.not (.v 38)) (.ite (.v 39) (.exit (.fail 180)) (.call 21 (Go.Sx.L2.lSame).rel [.v 0, .v 6] [6, 4] 0 0 (.letI (.add (.v 7) (.c 1)) (.again [.v 40] [6, 4])))))))))) (.letI (.cmp .eql (.v 11) (.c 3)) (.ite (.v 32) (.call 16 (Go.Sx.L2.cDrop).rel [.v 0, .v 6, .v 13, .v 15] [3] 5 2 (.letI (.cmp .neq (.v 37) (.c 2)) (.ite (.v 38) (.exit (.fail 180)) (.letL (.lit []) (.call 18 (Go.Sx.L2.lPlaces).rel [.v 33, .v 34, .v 35, .v 36, .c (0), .c (0), .c (0), .c (0)] [5, 7] 1 0 (.letI (.not (.v 39)) (.ite (.v 40) (.exit (.fail 180)) (.call 21 (Go.Sx.L2.lSame).rel [.v 0, .v 6] [6, 4] 0 0 (.letI (.add (.v 7) (.c 1)) (.again [.v 41] [6, 4])))))))))) (.call 20 (Go.Sx.L2.cBelow).rel [.v 0, .v 6, .v 13, .v 15] [3] 4 1 (.letL (.lit []) (.call 18 (Go.Sx.L2.lPlaces).rel [.v 33, .v 34, .v 35, .v 36, .c (0), .c (0), .c (0), .c (0)] [5, 6] 1 0 (.letI (.not (.v 37)) (.ite (.v 38) (.exit (.fail 180)) (.call 21 (Go.Sx.L2.lSame).rel [.v 0, .v 6] [3, 4] 0 0 (.letI (.add (.v 7) (.c 1)) (.again [.v 39] [3, 4])))))))))))))))))))))) (.letI (.mn (.v 15) (.c 7)) (.letI (.mx (.c 0) (.v 25)) (.both (.letI (.cmp .eql (.v 11) (.c 0)) (.ite (.v 27) (.call 12 (Go.Sx.L2.cRoot).rel [.v 0, .v 6, .v 13, .v 15, .v 23] [3] 1 1 (.letI (.cmp .neq (.v 28) (.c 2)) (.ite (.v 29) (.exit (.fail 180)) (.call 21 (Go.Sx.L2.lSame).rel [.v 0, .v 6] [5, 4] 0 0 (.letI (.add (.v 7) (.c 1)) (.again [.v 30] [5, 4])))))) (.letI (.cmp .eql (.v 11) (.c 1)) (.ite (.v 28) (.call 13 (Go.Sx.L2.lDer).rel [.v 0, .v 11, .v 13, .v 15, .v 17, .v 19, .v 21, .v 23, .c (0)] [4] 1 1 (.call 14 (Go.Sx.L2.cDer).rel [.v 0, .v 6, .v 13, .v 15, .v 17, .v 19, .v 21] [3] 1 1 (.letI (.cmp .neq (.v 29) (.v 30)) (.ite (.v 31) (.exit (.fail 180)) (.call 21 (Go.Sx.L2.lSame).rel [.v 0, .v 6] [6, 5] 0 0 (.letI (.add (.v 7) (.c 1)) (.again [.v 32] [6, 5]))))))) (.letI (.cmp .eql (.v 11) (.c 2)) (.ite (.v 29) (.call 15 (Go.Sx.L2.cRevoke).rel [.v 0, .v 6, .v 13, .v 15] [3] 5 2 (.letI (.cmp .neq (.v 34) (.c 2)) (.ite (.v 35) (.exit (.fail 180)) (.letL (.lit []) (.call 18 (Go.Sx.L2.lPlaces).rel [.v 30, .v 31, .v 32, .v 33, .c (0), .c (0), .c (0), .c (0)] [5, 7] 1 0 (.letI (.not (.v 36)) (.ite (.v 37) (.exit (.fail 180)) (.call 21 (Go.Sx.L2.lSame).rel [.v 0, .v 6] [6, 4] 0 0 (.letI (.add (.v 7) (.c 1)) (.again [.v 38] [6, 4])))))))))) (.letI (.cmp .eql (.v 11) (.c 3)) (.ite (.v 30) (.call 16 (Go.Sx.L2.cDrop).rel [.v 0, .v 6, .v 13, .v 15] [3] 5 2 (.letI (.cmp .neq (.v 35) (.c 2)) (.ite (.v 36) (.exit (.fail 180)) (.letL (.lit []) (.call 18 (Go.Sx.L2.lPlaces).rel [.v 31, .v 32, .v 33, .v 34, .c (0), .c (0), .c (0), .c (0)] [5, 7] 1 0 (.letI (.not (.v 37)) (.ite (.v 38) (.exit (.fail 180)) (.call 21 (Go.Sx.L2.lSame).rel [.v 0, .v 6] [6, 4] 0 0 (.letI (.add (.v 7) (.c 1)) (.again [.v 39] [6, 4])))))))))) (.call 20 (Go.Sx.L2.cBelow).rel [.v 0, .v 6, .v 13, .v 15] [3] 4 1 (.letL (.lit []) (.call 18 (Go.Sx.L2.lPlaces).rel [.v 31, .v 32, .v 33, .v 34, .c (0), .c (0), .c (0), .c (0)] [5, 6] 1 0 (.letI (.not (.v 35)) (.ite (.v 36) (.exit (.fail 180)) (.call 21 (Go.Sx.L2.lSame).rel [.v 0, .v 6] [3, 4] 0 0 (.letI (.add (.v 7) (.c 1)) (.again [.v 37] [3, 4])))))))))))))))) (.letI (.cmp .eql (.v 11) (.c 0)) (.ite (.v 27) (.call 12 (Go.Sx.L2.cRoot).rel [.v 0, .v 6, .v 13, .v 15, .v 23] [3] 1 1 (.letI (.cmp .neq (.v 28) (.c 2)) (.ite (.v 29) (.exit (.fail 180)) (.call 21 (Go.Sx.L2.lSame).rel [.v 0, .v 6] [5, 4] 0 0 (.letI (.add (.v 7) (.c 1)) (.again [.v 30] [5, 4])))))) (.letI (.cmp .eql (.v 11) (.c 1)) (.ite (.v 28) (.call 13 (Go.Sx.L2.lDer).rel [.v 0, .v 11, .v 13, .v 15, .v 17, .v 19, .v 21, .v 23, .c (0)] [4] 1 1 (.call 14 (Go.Sx.L2.cDer).rel [.v 0, .v 6, .v 13, .v 15, .v 17, .v 19, .v 21] [3] 1 1 (.letI (.cmp .neq (.v 29) (.v 30)) (.ite (.v 31) (.exit (.fail 180)) (.call 21 (Go.Sx.L2.lSame).rel [.v 0, .v 6] [6, 5] 0 0 (.letI (.add (.v 7) (.c 1)) (.again [.v 32] [6, 5]))))))) (.letI (.cmp .eql (.v 11) (.c 2)) (.ite (.v 29) (.call 15 (Go.Sx.L2.cRevoke).rel [.v 0, .v 6, .v 13, .v 15] [3] 5 2 (.letI (.cmp .neq (.v 34) (.c 2)) (.ite (.v 35) (.exit (.fail 180)) (.letL (.lit []) (.call 18 (Go.Sx.L2.lPlaces).rel [.v 30, .v 31, .v 32, .v 33, .c (0), .c (0), .c (0), .c (0)] [5, 7] 1 0 (.letI (.not (.v 36)) (.ite (.v 37) (.exit (.fail 180)) (.call 21 (Go.Sx.L2.lSame).rel [.v 0, .v 6] [6, 4] 0 0 (.letI (.add (.v 7) (.c 1)) (.again [.v 38] [6, 4])))))))))) (.letI (.cmp .eql (.v 11) (.c 3)) (.ite (.v 30) (.call 16 (Go.Sx.L2.cDrop).rel [.v 0, .v 6, .v 13, .v 15] [3] 5 2 (.letI (.cmp .neq (.v 35) (.c 2)) (.ite (.v 36) (.exit (.fail 180)) (.letL (.lit []) (.call 18 (Go.Sx.L2.lPlaces).rel [.v 31, .v 32, .v 33, .v 34, .c (0), .c (0), .c (0), .c (0)] [5, 7] 1 0 (.letI (.not (.v 37)) (.ite (.v 38) (.exit (.fail 180)) (.call 21 (Go.Sx.L2.lSame).rel [.v 0, .v 6] [6, 4] 0 0 (.letI (.add (.v 7) (.c 1)) (.again [.v 39] [6, 4])))))))))) (.call 20 (Go.Sx.L2.cBelow).rel [.v 0, .v 6, .v 13, .v 15] [3] 4 1 (.letL (.lit []) (.call 18 (Go.Sx.L2.lPlaces).rel [.v 31, .v 32, .v 33, .v 34, .c (0), .c (0), .c (0), .c (0)] [5, 6] 1 0 (.letI (.not (.v 35)) (.ite (.v 36) (.exit (.fail 180)) (.call 21 (Go.Sx.L2.lSame).rel [.v 0, .v 6] [3, 4] 0 0 (.letI (.add (.v 7) (.c 1)) (.again [.v 37] [3, 4]))))))))))))))))))))))))))))))))))))))))))) (.exit (.done [] [])))) (.exit (.done [] []))))))))))))
theorem CapsAll_tree : (lawSpec L2.f_messuagelaw11_CapsAll [.one (.i .i64), .slc L2.ks7]).exe Tryz.prog (withS (L2.cfgB Tryz.prog) [L2.rKNewV, L2.cRoot, L2.cDer, L2.cRevoke, L2.cDrop, L2.cBelow, L2.rBelow, L2.lGone, L2.lPlaces, L2.lDer, L2.lSame]) [{ f := L2.f_messuagelaw11_CapsAll, reg := 9, ints := [(8, 0, 50)], lists := [(6, [0], some (-9223372036854775808, 9223372036854775807)), (7, [], some (-9223372036854775808, 18446744073709551615))] }] 20 200 = CapsAll_t := by kernel_rfl
theorem CapsAll_vc (Q : List Int → List (List Int) → Prop) (v0 v1 v2 v3 : Int) (L0 : List Int) : CapsAll_t.dn ⟨Q, []⟩ 4 [v3, v2, v1, v0] 1 [L0] = ((Go.Sx.L2.yes Go.Sx.L2.f_messuagelaw11_begun).rel.pre [] [] ∧
((Go.Sx.L2.yes Go.Sx.L2.f_messuagelaw11_begun).rel.post [] [] [] [] → ((v0 < (1 : Int)) → Q [] []) ∧
(((1 : Int) ≤ v0) → (((4 : Int) < v0) → Q [] []) ∧
((v0 ≤ (4 : Int)) → ∀ v6 : Int, v6 = v0 * (32 : Int) → ∀ L1 : List Int, L1 = List.replicate (v6).toNat (0 : Int) → (Go.Sx.L2.rKNewV).rel.pre [v0] [] ∧
(∀ L2 : List Int, (Go.Sx.L2.rKNewV).rel.post [v0] [] [] [L2] → ∃ (I0 : List Int → List (List Int) → Prop) (μ0 : List Int → List (List Int) → Nat), I0 [(0 : Int)] [L1, L2] ∧
(∀ v7 : Int, ∀ L3 : List Int, ∀ L4 : List Int, I0 [v7] [L3, L4] →
 ((v7 < v1) → ((v7 < (50 : Int)) → (v7 < v1) ∧ ∀ v10 : Int, v10 = v7 * (7 : Int) → (v10 < v3) ∧ ∀ v11 : Int, v11 = (L0).getD (v10).toNat 0 → ∀ v12 : Int, v12 = v10 + (1 : Int) → (v12 < v3) ∧ ∀ v13 : Int, v13 = (L0).getD (v12).toNat 0 → ∀ v14 : Int, v14 = v10 + (2 : Int) → (v14 < v3) ∧ ∀ v15 : Int, v15 = (L0).getD (v14).toNat 0 → ∀ v16 : Int, v16 = v10 + (3 : Int) → (v16 < v3) ∧ ∀ v17 : Int, v17 = (L0).getD (v16).toNat 0 → ∀ v18 : Int, v18 = v10 + (4 : Int) → (v18 < v3) ∧ ∀ v19 : Int, v19 = (L0).getD (v18).toNat 0 → ∀ v20 : Int, v20 = v10 + (5 : Int) → (v20 < v3) ∧ ∀ v21 : Int, v21 = (L0).getD (v20).toNat 0 → ∀ v22 : Int, v22 = v10 + (6 : Int) → (v22 < v3) ∧ ∀ v23 : Int, v23 = (L0).getD (v22).toNat 0 → (((0 : Int) ≤ v13) → ((v13 < v0) → (((0 : Int) ≤ v15) → ∀ v27 : Int, v27 = b2i (decide (v15 < (8 : Int))) → ∀ v28 : Int, v28 = (if v13 > (0 : Int) then v13 else (0 : Int)) → ∀ v29 : Int, v29 = (if (7 : Int) < v15 then (7 : Int) else v15) → ∀ v30 : Int, v30 = (if v29 > (0 : Int) then v29 else (0 : Int)) → (v27 ≠ 0 → ∀ v31 : Int, v31 = v28 * (40 : Int) → ∀ v32 : Int, v32 = (3 : Int) + v31 → ∀ v33 : Int, v33 = v30 * (5 : Int) → ∀ v34 : Int, v34 = v32 + v33 → ∀ v35 : Int, v35 = (L4).getD (v34).toNat 0 → ((v11 = (0 : Int)) → ((v23 < (0 : Int)) → (Go.Sx.L2.cRoot).rel.pre [v0, v6, v13, v15, v23] [L3] ∧
(∀ v38 : Int, ∀ L5 : List Int, (Go.Sx.L2.cRoot).rel.post [v0, v6, v13, v15, v23] [L3] [v38] [L5] → ((v38 ≠ (2 : Int)) → False) ∧
((v38 = (2 : Int)) → (Go.Sx.L2.lSame).rel.pre [v0, v6] [L5, L4] ∧
((Go.Sx.L2.lSame).rel.post [v0, v6] [L5, L4] [] [] → ∀ v40 : Int, v40 = v7 + (1 : Int) → (I0 [v40] [L5, L4] ∧ μ0 [v40] [L5, L4] < μ0 [v7] [L3, L4]))))) ∧
(((0 : Int) ≤ v23) → (((16 : Int) ≤ v23) → (Go.Sx.L2.cRoot).rel.pre [v0, v6, v13, v15, v23] [L3] ∧
(∀ v39 : Int, ∀ L5 : List Int, (Go.Sx.L2.cRoot).rel.post [v0, v6, v13, v15, v23] [L3] [v39] [L5] → ((v39 ≠ (2 : Int)) → False) ∧
((v39 = (2 : Int)) → (Go.Sx.L2.lSame).rel.pre [v0, v6] [L5, L4] ∧
((Go.Sx.L2.lSame).rel.post [v0, v6] [L5, L4] [] [] → ∀ v41 : Int, v41 = v7 + (1 : Int) → (I0 [v41] [L5, L4] ∧ μ0 [v41] [L5, L4] < μ0 [v7] [L3, L4]))))) ∧
((v23 < (16 : Int)) → (v35 ≠ 0 → (Go.Sx.L2.cRoot).rel.pre [v0, v6, v13, v15, v23] [L3] ∧
(∀ v39 : Int, ∀ L5 : List Int, (Go.Sx.L2.cRoot).rel.post [v0, v6, v13, v15, v23] [L3] [v39] [L5] → ((v39 ≠ (4 : Int)) → False) ∧
((v39 = (4 : Int)) → (Go.Sx.L2.lSame).rel.pre [v0, v6] [L5, L4] ∧
((Go.Sx.L2.lSame).rel.post [v0, v6] [L5, L4] [] [] → ∀ v41 : Int, v41 = v7 + (1 : Int) → (I0 [v41] [L5, L4] ∧ μ0 [v41] [L5, L4] < μ0 [v7] [L3, L4]))))) ∧
(v35 = 0 → ∀ L5 : List Int, L5 = (L4).set (v34).toNat (1 : Int) → ∀ v39 : Int, v39 = v34 + (1 : Int) → ∀ L6 : List Int, L6 = (L5).set (v39).toNat v23 → ∀ v40 : Int, v40 = v34 + (2 : Int) → ∀ L7 : List Int, L7 = (L6).set (v40).toNat (3 : Int) → ∀ v41 : Int, v41 = v34 + (3 : Int) → ∀ L8 : List Int, L8 = (L7).set (v41).toNat ((-1) : Int) → ∀ v42 : Int, v42 = v34 + (4 : Int) → ∀ L9 : List Int, L9 = (L8).set (v42).toNat (0 : Int) → (Go.Sx.L2.cRoot).rel.pre [v0, v6, v13, v15, v23] [L3] ∧
(∀ v43 : Int, ∀ L10 : List Int, (Go.Sx.L2.cRoot).rel.post [v0, v6, v13, v15, v23] [L3] [v43] [L10] → ((v43 ≠ (0 : Int)) → False) ∧
((v43 = (0 : Int)) → (Go.Sx.L2.lSame).rel.pre [v0, v6] [L10, L9] ∧
((Go.Sx.L2.lSame).rel.post [v0, v6] [L10, L9] [] [] → ∀ v45 : Int, v45 = v7 + (1 : Int) → (I0 [v45] [L10, L9] ∧ μ0 [v45] [L10, L9] < μ0 [v7] [L3, L4])))))))) ∧
((v11 ≠ (0 : Int)) → ((v11 = (1 : Int)) → (Go.Sx.L2.lDer).rel.pre [v0, v11, v13, v15, v17, v19, v21, v23, v27] [L4] ∧
(∀ v38 : Int, ∀ L5 : List Int, (Go.Sx.L2.lDer).rel.post [v0, v11, v13, v15, v17, v19, v21, v23, v27] [L4] [v38] [L5] → (Go.Sx.L2.cDer).rel.pre [v0, v6, v13, v15, v17, v19, v21] [L3] ∧
(∀ v39 : Int, ∀ L6 : List Int, (Go.Sx.L2.cDer).rel.post [v0, v6, v13, v15, v17, v19, v21] [L3] [v39] [L6] → ((v38 ≠ v39) → False) ∧
((v38 = v39) → (Go.Sx.L2.lSame).rel.pre [v0, v6] [L6, L5] ∧
((Go.Sx.L2.lSame).rel.post [v0, v6] [L6, L5] [] [] → ∀ v41 : Int, v41 = v7 + (1 : Int) → (I0 [v41] [L6, L5] ∧ μ0 [v41] [L6, L5] < μ0 [v7] [L3, L4])))))) ∧
((v11 ≠ (1 : Int)) → ((v11 = (2 : Int)) → (Go.Sx.L2.cRevoke).rel.pre [v0, v6, v13, v15] [L3] ∧
(∀ v39 : Int, ∀ v40 : Int, ∀ v41 : Int, ∀ v42 : Int, ∀ v43 : Int, ∀ L5 : List Int, ∀ L6 : List Int, (Go.Sx.L2.cRevoke).rel.post [v0, v6, v13, v15] [L3] [v39, v40, v41, v42, v43] [L5, L6] → (v35 ≠ 0 → (Go.Sx.L2.lGone).rel.pre [v28, v30, (0 : Int)] [L4] ∧
(∀ v44 : Int, ∀ v45 : Int, ∀ v46 : Int, ∀ v47 : Int, ∀ L7 : List Int, ∀ L8 : List Int, (Go.Sx.L2.lGone).rel.post [v28, v30, (0 : Int)] [L4] [v44, v45, v46, v47] [L7, L8] → ((v43 ≠ (0 : Int)) → False) ∧
((v43 = (0 : Int)) → (Go.Sx.L2.lPlaces).rel.pre [v39, v40, v41, v42, v44, v45, v46, v47] [L5, L7] ∧
(∀ v49 : Int, (Go.Sx.L2.lPlaces).rel.post [v39, v40, v41, v42, v44, v45, v46, v47] [L5, L7] [v49] [] → ∀ v50 : Int, v50 = b2i (v49 == 0) → (v50 ≠ 0 → False) ∧
(v50 = 0 → (Go.Sx.L2.lSame).rel.pre [v0, v6] [L6, L8] ∧
((Go.Sx.L2.lSame).rel.post [v0, v6] [L6, L8] [] [] → ∀ v51 : Int, v51 = v7 + (1 : Int) → (I0 [v51] [L6, L8] ∧ μ0 [v51] [L6, L8] < μ0 [v7] [L3, L4]))))))) ∧
(v35 = 0 → ((v43 ≠ (3 : Int)) → False) ∧
((v43 = (3 : Int)) → ∀ L7 : List Int, L7 = [] → (Go.Sx.L2.lPlaces).rel.pre [v39, v40, v41, v42, (0 : Int), (0 : Int), (0 : Int), (0 : Int)] [L5, L7] ∧
(∀ v45 : Int, (Go.Sx.L2.lPlaces).rel.post [v39, v40, v41, v42, (0 : Int), (0 : Int), (0 : Int), (0 : Int)] [L5, L7] [v45] [] → ∀ v46 : Int, v46 = b2i (v45 == 0) → (v46 ≠ 0 → False) ∧
(v46 = 0 → (Go.Sx.L2.lSame).rel.pre [v0, v6] [L6, L4] ∧
((Go.Sx.L2.lSame).rel.post [v0, v6] [L6, L4] [] [] → ∀ v47 : Int, v47 = v7 + (1 : Int) → (I0 [v47] [L6, L4] ∧ μ0 [v47] [L6, L4] < μ0 [v7] [L3, L4])))))))) ∧
((v11 ≠ (2 : Int)) → ((v11 = (3 : Int)) → (Go.Sx.L2.cDrop).rel.pre [v0, v6, v13, v15] [L3] ∧
(∀ v40 : Int, ∀ v41 : Int, ∀ v42 : Int, ∀ v43 : Int, ∀ v44 : Int, ∀ L5 : List Int, ∀ L6 : List Int, (Go.Sx.L2.cDrop).rel.post [v0, v6, v13, v15] [L3] [v40, v41, v42, v43, v44] [L5, L6] → (v35 ≠ 0 → (Go.Sx.L2.lGone).rel.pre [v28, v30, (1 : Int)] [L4] ∧
(∀ v45 : Int, ∀ v46 : Int, ∀ v47 : Int, ∀ v48 : Int, ∀ L7 : List Int, ∀ L8 : List Int, (Go.Sx.L2.lGone).rel.post [v28, v30, (1 : Int)] [L4] [v45, v46, v47, v48] [L7, L8] → ((v44 ≠ (0 : Int)) → False) ∧
((v44 = (0 : Int)) → (Go.Sx.L2.lPlaces).rel.pre [v40, v41, v42, v43, v45, v46, v47, v48] [L5, L7] ∧
(∀ v50 : Int, (Go.Sx.L2.lPlaces).rel.post [v40, v41, v42, v43, v45, v46, v47, v48] [L5, L7] [v50] [] → ∀ v51 : Int, v51 = b2i (v50 == 0) → (v51 ≠ 0 → False) ∧
(v51 = 0 → (Go.Sx.L2.lSame).rel.pre [v0, v6] [L6, L8] ∧
((Go.Sx.L2.lSame).rel.post [v0, v6] [L6, L8] [] [] → ∀ v52 : Int, v52 = v7 + (1 : Int) → (I0 [v52] [L6, L8] ∧ μ0 [v52] [L6, L8] < μ0 [v7] [L3, L4]))))))) ∧
(v35 = 0 → ((v44 ≠ (3 : Int)) → False) ∧
((v44 = (3 : Int)) → ∀ L7 : List Int, L7 = [] → (Go.Sx.L2.lPlaces).rel.pre [v40, v41, v42, v43, (0 : Int), (0 : Int), (0 : Int), (0 : Int)] [L5, L7] ∧
(∀ v46 : Int, (Go.Sx.L2.lPlaces).rel.post [v40, v41, v42, v43, (0 : Int), (0 : Int), (0 : Int), (0 : Int)] [L5, L7] [v46] [] → ∀ v47 : Int, v47 = b2i (v46 == 0) → (v47 ≠ 0 → False) ∧
(v47 = 0 → (Go.Sx.L2.lSame).rel.pre [v0, v6] [L6, L4] ∧
((Go.Sx.L2.lSame).rel.post [v0, v6] [L6, L4] [] [] → ∀ v48 : Int, v48 = v7 + (1 : Int) → (I0 [v48] [L6, L4] ∧ μ0 [v48] [L6, L4] < μ0 [v7] [L3, L4])))))))) ∧
((v11 ≠ (3 : Int)) → (v35 ≠ 0 → (Go.Sx.L2.rBelow).rel.pre [v28, v30] [L4] ∧
(∀ v40 : Int, ∀ v41 : Int, ∀ v42 : Int, ∀ v43 : Int, ∀ L5 : List Int, (Go.Sx.L2.rBelow).rel.post [v28, v30] [L4] [v40, v41, v42, v43] [L5] → (Go.Sx.L2.cBelow).rel.pre [v0, v6, v13, v15] [L3] ∧
(∀ v44 : Int, ∀ v45 : Int, ∀ v46 : Int, ∀ v47 : Int, ∀ L6 : List Int, (Go.Sx.L2.cBelow).rel.post [v0, v6, v13, v15] [L3] [v44, v45, v46, v47] [L6] → (Go.Sx.L2.lPlaces).rel.pre [v44, v45, v46, v47, v40, v41, v42, v43] [L6, L5] ∧
(∀ v48 : Int, (Go.Sx.L2.lPlaces).rel.post [v44, v45, v46, v47, v40, v41, v42, v43] [L6, L5] [v48] [] → ∀ v49 : Int, v49 = b2i (v48 == 0) → (v49 ≠ 0 → False) ∧
(v49 = 0 → (Go.Sx.L2.lSame).rel.pre [v0, v6] [L3, L4] ∧
((Go.Sx.L2.lSame).rel.post [v0, v6] [L3, L4] [] [] → ∀ v50 : Int, v50 = v7 + (1 : Int) → (I0 [v50] [L3, L4] ∧ μ0 [v50] [L3, L4] < μ0 [v7] [L3, L4]))))))) ∧
(v35 = 0 → (Go.Sx.L2.cBelow).rel.pre [v0, v6, v13, v15] [L3] ∧
(∀ v40 : Int, ∀ v41 : Int, ∀ v42 : Int, ∀ v43 : Int, ∀ L5 : List Int, (Go.Sx.L2.cBelow).rel.post [v0, v6, v13, v15] [L3] [v40, v41, v42, v43] [L5] → ∀ L6 : List Int, L6 = [] → (Go.Sx.L2.lPlaces).rel.pre [v40, v41, v42, v43, (0 : Int), (0 : Int), (0 : Int), (0 : Int)] [L5, L6] ∧
(∀ v44 : Int, (Go.Sx.L2.lPlaces).rel.post [v40, v41, v42, v43, (0 : Int), (0 : Int), (0 : Int), (0 : Int)] [L5, L6] [v44] [] → ∀ v45 : Int, v45 = b2i (v44 == 0) → (v45 ≠ 0 → False) ∧
(v45 = 0 → (Go.Sx.L2.lSame).rel.pre [v0, v6] [L3, L4] ∧
((Go.Sx.L2.lSame).rel.post [v0, v6] [L3, L4] [] [] → ∀ v46 : Int, v46 = v7 + (1 : Int) → (I0 [v46] [L3, L4] ∧ μ0 [v46] [L3, L4] < μ0 [v7] [L3, L4]))))))))))) ∧
(v27 = 0 → (((v11 = (0 : Int)) → (Go.Sx.L2.cRoot).rel.pre [v0, v6, v13, v15, v23] [L3] ∧
(∀ v32 : Int, ∀ L5 : List Int, (Go.Sx.L2.cRoot).rel.post [v0, v6, v13, v15, v23] [L3] [v32] [L5] → ((v32 ≠ (2 : Int)) → False) ∧
((v32 = (2 : Int)) → (Go.Sx.L2.lSame).rel.pre [v0, v6] [L5, L4] ∧
((Go.Sx.L2.lSame).rel.post [v0, v6] [L5, L4] [] [] → ∀ v34 : Int, v34 = v7 + (1 : Int) → (I0 [v34] [L5, L4] ∧ μ0 [v34] [L5, L4] < μ0 [v7] [L3, L4]))))) ∧
((v11 ≠ (0 : Int)) → ((v11 = (1 : Int)) → (Go.Sx.L2.lDer).rel.pre [v0, v11, v13, v15, v17, v19, v21, v23, v27] [L4] ∧
(∀ v33 : Int, ∀ L5 : List Int, (Go.Sx.L2.lDer).rel.post [v0, v11, v13, v15, v17, v19, v21, v23, v27] [L4] [v33] [L5] → (Go.Sx.L2.cDer).rel.pre [v0, v6, v13, v15, v17, v19, v21] [L3] ∧
(∀ v34 : Int, ∀ L6 : List Int, (Go.Sx.L2.cDer).rel.post [v0, v6, v13, v15, v17, v19, v21] [L3] [v34] [L6] → ((v33 ≠ v34) → False) ∧
((v33 = v34) → (Go.Sx.L2.lSame).rel.pre [v0, v6] [L6, L5] ∧
((Go.Sx.L2.lSame).rel.post [v0, v6] [L6, L5] [] [] → ∀ v36 : Int, v36 = v7 + (1 : Int) → (I0 [v36] [L6, L5] ∧ μ0 [v36] [L6, L5] < μ0 [v7] [L3, L4])))))) ∧
((v11 ≠ (1 : Int)) → ((v11 = (2 : Int)) → (Go.Sx.L2.cRevoke).rel.pre [v0, v6, v13, v15] [L3] ∧
(∀ v34 : Int, ∀ v35 : Int, ∀ v36 : Int, ∀ v37 : Int, ∀ v38 : Int, ∀ L5 : List Int, ∀ L6 : List Int, (Go.Sx.L2.cRevoke).rel.post [v0, v6, v13, v15] [L3] [v34, v35, v36, v37, v38] [L5, L6] → ((v38 ≠ (2 : Int)) → False) ∧
((v38 = (2 : Int)) → ∀ L7 : List Int, L7 = [] → (Go.Sx.L2.lPlaces).rel.pre [v34, v35, v36, v37, (0 : Int), (0 : Int), (0 : Int), (0 : Int)] [L5, L7] ∧
(∀ v40 : Int, (Go.Sx.L2.lPlaces).rel.post [v34, v35, v36, v37, (0 : Int), (0 : Int), (0 : Int), (0 : Int)] [L5, L7] [v40] [] → ∀ v41 : Int, v41 = b2i (v40 == 0) → (v41 ≠ 0 → False) ∧
(v41 = 0 → (Go.Sx.L2.lSame).rel.pre [v0, v6] [L6, L4] ∧
((Go.Sx.L2.lSame).rel.post [v0, v6] [L6, L4] [] [] → ∀ v42 : Int, v42 = v7 + (1 : Int) → (I0 [v42] [L6, L4] ∧ μ0 [v42] [L6, L4] < μ0 [v7] [L3, L4]))))))) ∧
((v11 ≠ (2 : Int)) → ((v11 = (3 : Int)) → (Go.Sx.L2.cDrop).rel.pre [v0, v6, v13, v15] [L3] ∧
(∀ v35 : Int, ∀ v36 : Int, ∀ v37 : Int, ∀ v38 : Int, ∀ v39 : Int, ∀ L5 : List Int, ∀ L6 : List Int, (Go.Sx.L2.cDrop).rel.post [v0, v6, v13, v15] [L3] [v35, v36, v37, v38, v39] [L5, L6] → ((v39 ≠ (2 : Int)) → False) ∧
((v39 = (2 : Int)) → ∀ L7 : List Int, L7 = [] → (Go.Sx.L2.lPlaces).rel.pre [v35, v36, v37, v38, (0 : Int), (0 : Int), (0 : Int), (0 : Int)] [L5, L7] ∧
(∀ v41 : Int, (Go.Sx.L2.lPlaces).rel.post [v35, v36, v37, v38, (0 : Int), (0 : Int), (0 : Int), (0 : Int)] [L5, L7] [v41] [] → ∀ v42 : Int, v42 = b2i (v41 == 0) → (v42 ≠ 0 → False) ∧
(v42 = 0 → (Go.Sx.L2.lSame).rel.pre [v0, v6] [L6, L4] ∧
((Go.Sx.L2.lSame).rel.post [v0, v6] [L6, L4] [] [] → ∀ v43 : Int, v43 = v7 + (1 : Int) → (I0 [v43] [L6, L4] ∧ μ0 [v43] [L6, L4] < μ0 [v7] [L3, L4]))))))) ∧
((v11 ≠ (3 : Int)) → (Go.Sx.L2.cBelow).rel.pre [v0, v6, v13, v15] [L3] ∧
(∀ v35 : Int, ∀ v36 : Int, ∀ v37 : Int, ∀ v38 : Int, ∀ L5 : List Int, (Go.Sx.L2.cBelow).rel.post [v0, v6, v13, v15] [L3] [v35, v36, v37, v38] [L5] → ∀ L6 : List Int, L6 = [] → (Go.Sx.L2.lPlaces).rel.pre [v35, v36, v37, v38, (0 : Int), (0 : Int), (0 : Int), (0 : Int)] [L5, L6] ∧
(∀ v39 : Int, (Go.Sx.L2.lPlaces).rel.post [v35, v36, v37, v38, (0 : Int), (0 : Int), (0 : Int), (0 : Int)] [L5, L6] [v39] [] → ∀ v40 : Int, v40 = b2i (v39 == 0) → (v40 ≠ 0 → False) ∧
(v40 = 0 → (Go.Sx.L2.lSame).rel.pre [v0, v6] [L3, L4] ∧
((Go.Sx.L2.lSame).rel.post [v0, v6] [L3, L4] [] [] → ∀ v41 : Int, v41 = v7 + (1 : Int) → (I0 [v41] [L3, L4] ∧ μ0 [v41] [L3, L4] < μ0 [v7] [L3, L4])))))))))) ∧
(((v11 = (0 : Int)) → (Go.Sx.L2.cRoot).rel.pre [v0, v6, v13, v15, v23] [L3] ∧
(∀ v32 : Int, ∀ L5 : List Int, (Go.Sx.L2.cRoot).rel.post [v0, v6, v13, v15, v23] [L3] [v32] [L5] → ((v32 ≠ (2 : Int)) → False) ∧
((v32 = (2 : Int)) → (Go.Sx.L2.lSame).rel.pre [v0, v6] [L5, L4] ∧
((Go.Sx.L2.lSame).rel.post [v0, v6] [L5, L4] [] [] → ∀ v34 : Int, v34 = v7 + (1 : Int) → (I0 [v34] [L5, L4] ∧ μ0 [v34] [L5, L4] < μ0 [v7] [L3, L4]))))) ∧
((v11 ≠ (0 : Int)) → ((v11 = (1 : Int)) → (Go.Sx.L2.lDer).rel.pre [v0, v11, v13, v15, v17, v19, v21, v23, v27] [L4] ∧
(∀ v33 : Int, ∀ L5 : List Int, (Go.Sx.L2.lDer).rel.post [v0, v11, v13, v15, v17, v19, v21, v23, v27] [L4] [v33] [L5] → (Go.Sx.L2.cDer).rel.pre [v0, v6, v13, v15, v17, v19, v21] [L3] ∧
(∀ v34 : Int, ∀ L6 : List Int, (Go.Sx.L2.cDer).rel.post [v0, v6, v13, v15, v17, v19, v21] [L3] [v34] [L6] → ((v33 ≠ v34) → False) ∧
((v33 = v34) → (Go.Sx.L2.lSame).rel.pre [v0, v6] [L6, L5] ∧
((Go.Sx.L2.lSame).rel.post [v0, v6] [L6, L5] [] [] → ∀ v36 : Int, v36 = v7 + (1 : Int) → (I0 [v36] [L6, L5] ∧ μ0 [v36] [L6, L5] < μ0 [v7] [L3, L4])))))) ∧
((v11 ≠ (1 : Int)) → ((v11 = (2 : Int)) → (Go.Sx.L2.cRevoke).rel.pre [v0, v6, v13, v15] [L3] ∧
(∀ v34 : Int, ∀ v35 : Int, ∀ v36 : Int, ∀ v37 : Int, ∀ v38 : Int, ∀ L5 : List Int, ∀ L6 : List Int, (Go.Sx.L2.cRevoke).rel.post [v0, v6, v13, v15] [L3] [v34, v35, v36, v37, v38] [L5, L6] → ((v38 ≠ (2 : Int)) → False) ∧
((v38 = (2 : Int)) → ∀ L7 : List Int, L7 = [] → (Go.Sx.L2.lPlaces).rel.pre [v34, v35, v36, v37, (0 : Int), (0 : Int), (0 : Int), (0 : Int)] [L5, L7] ∧
(∀ v40 : Int, (Go.Sx.L2.lPlaces).rel.post [v34, v35, v36, v37, (0 : Int), (0 : Int), (0 : Int), (0 : Int)] [L5, L7] [v40] [] → ∀ v41 : Int, v41 = b2i (v40 == 0) → (v41 ≠ 0 → False) ∧
(v41 = 0 → (Go.Sx.L2.lSame).rel.pre [v0, v6] [L6, L4] ∧
((Go.Sx.L2.lSame).rel.post [v0, v6] [L6, L4] [] [] → ∀ v42 : Int, v42 = v7 + (1 : Int) → (I0 [v42] [L6, L4] ∧ μ0 [v42] [L6, L4] < μ0 [v7] [L3, L4]))))))) ∧
((v11 ≠ (2 : Int)) → ((v11 = (3 : Int)) → (Go.Sx.L2.cDrop).rel.pre [v0, v6, v13, v15] [L3] ∧
(∀ v35 : Int, ∀ v36 : Int, ∀ v37 : Int, ∀ v38 : Int, ∀ v39 : Int, ∀ L5 : List Int, ∀ L6 : List Int, (Go.Sx.L2.cDrop).rel.post [v0, v6, v13, v15] [L3] [v35, v36, v37, v38, v39] [L5, L6] → ((v39 ≠ (2 : Int)) → False) ∧
((v39 = (2 : Int)) → ∀ L7 : List Int, L7 = [] → (Go.Sx.L2.lPlaces).rel.pre [v35, v36, v37, v38, (0 : Int), (0 : Int), (0 : Int), (0 : Int)] [L5, L7] ∧
(∀ v41 : Int, (Go.Sx.L2.lPlaces).rel.post [v35, v36, v37, v38, (0 : Int), (0 : Int), (0 : Int), (0 : Int)] [L5, L7] [v41] [] → ∀ v42 : Int, v42 = b2i (v41 == 0) → (v42 ≠ 0 → False) ∧
(v42 = 0 → (Go.Sx.L2.lSame).rel.pre [v0, v6] [L6, L4] ∧
((Go.Sx.L2.lSame).rel.post [v0, v6] [L6, L4] [] [] → ∀ v43 : Int, v43 = v7 + (1 : Int) → (I0 [v43] [L6, L4] ∧ μ0 [v43] [L6, L4] < μ0 [v7] [L3, L4]))))))) ∧
((v11 ≠ (3 : Int)) → (Go.Sx.L2.cBelow).rel.pre [v0, v6, v13, v15] [L3] ∧
(∀ v35 : Int, ∀ v36 : Int, ∀ v37 : Int, ∀ v38 : Int, ∀ L5 : List Int, (Go.Sx.L2.cBelow).rel.post [v0, v6, v13, v15] [L3] [v35, v36, v37, v38] [L5] → ∀ L6 : List Int, L6 = [] → (Go.Sx.L2.lPlaces).rel.pre [v35, v36, v37, v38, (0 : Int), (0 : Int), (0 : Int), (0 : Int)] [L5, L6] ∧
(∀ v39 : Int, (Go.Sx.L2.lPlaces).rel.post [v35, v36, v37, v38, (0 : Int), (0 : Int), (0 : Int), (0 : Int)] [L5, L6] [v39] [] → ∀ v40 : Int, v40 = b2i (v39 == 0) → (v40 ≠ 0 → False) ∧
(v40 = 0 → (Go.Sx.L2.lSame).rel.pre [v0, v6] [L3, L4] ∧
((Go.Sx.L2.lSame).rel.post [v0, v6] [L3, L4] [] [] → ∀ v41 : Int, v41 = v7 + (1 : Int) → (I0 [v41] [L3, L4] ∧ μ0 [v41] [L3, L4] < μ0 [v7] [L3, L4])))))))))))) ∧
((v15 < (0 : Int)) → ∀ v27 : Int, v27 = (if v13 > (0 : Int) then v13 else (0 : Int)) → (((v11 = (0 : Int)) → (Go.Sx.L2.cRoot).rel.pre [v0, v6, v13, v15, v23] [L3] ∧
(∀ v29 : Int, ∀ L5 : List Int, (Go.Sx.L2.cRoot).rel.post [v0, v6, v13, v15, v23] [L3] [v29] [L5] → ((v29 ≠ (2 : Int)) → False) ∧
((v29 = (2 : Int)) → (Go.Sx.L2.lSame).rel.pre [v0, v6] [L5, L4] ∧
((Go.Sx.L2.lSame).rel.post [v0, v6] [L5, L4] [] [] → ∀ v31 : Int, v31 = v7 + (1 : Int) → (I0 [v31] [L5, L4] ∧ μ0 [v31] [L5, L4] < μ0 [v7] [L3, L4]))))) ∧
((v11 ≠ (0 : Int)) → ((v11 = (1 : Int)) → (Go.Sx.L2.lDer).rel.pre [v0, v11, v13, v15, v17, v19, v21, v23, (0 : Int)] [L4] ∧
(∀ v30 : Int, ∀ L5 : List Int, (Go.Sx.L2.lDer).rel.post [v0, v11, v13, v15, v17, v19, v21, v23, (0 : Int)] [L4] [v30] [L5] → (Go.Sx.L2.cDer).rel.pre [v0, v6, v13, v15, v17, v19, v21] [L3] ∧
(∀ v31 : Int, ∀ L6 : List Int, (Go.Sx.L2.cDer).rel.post [v0, v6, v13, v15, v17, v19, v21] [L3] [v31] [L6] → ((v30 ≠ v31) → False) ∧
((v30 = v31) → (Go.Sx.L2.lSame).rel.pre [v0, v6] [L6, L5] ∧
((Go.Sx.L2.lSame).rel.post [v0, v6] [L6, L5] [] [] → ∀ v33 : Int, v33 = v7 + (1 : Int) → (I0 [v33] [L6, L5] ∧ μ0 [v33] [L6, L5] < μ0 [v7] [L3, L4])))))) ∧
((v11 ≠ (1 : Int)) → ((v11 = (2 : Int)) → (Go.Sx.L2.cRevoke).rel.pre [v0, v6, v13, v15] [L3] ∧
(∀ v31 : Int, ∀ v32 : Int, ∀ v33 : Int, ∀ v34 : Int, ∀ v35 : Int, ∀ L5 : List Int, ∀ L6 : List Int, (Go.Sx.L2.cRevoke).rel.post [v0, v6, v13, v15] [L3] [v31, v32, v33, v34, v35] [L5, L6] → ((v35 ≠ (2 : Int)) → False) ∧
((v35 = (2 : Int)) → ∀ L7 : List Int, L7 = [] → (Go.Sx.L2.lPlaces).rel.pre [v31, v32, v33, v34, (0 : Int), (0 : Int), (0 : Int), (0 : Int)] [L5, L7] ∧
(∀ v37 : Int, (Go.Sx.L2.lPlaces).rel.post [v31, v32, v33, v34, (0 : Int), (0 : Int), (0 : Int), (0 : Int)] [L5, L7] [v37] [] → ∀ v38 : Int, v38 = b2i (v37 == 0) → (v38 ≠ 0 → False) ∧
(v38 = 0 → (Go.Sx.L2.lSame).rel.pre [v0, v6] [L6, L4] ∧
((Go.Sx.L2.lSame).rel.post [v0, v6] [L6, L4] [] [] → ∀ v39 : Int, v39 = v7 + (1 : Int) → (I0 [v39] [L6, L4] ∧ μ0 [v39] [L6, L4] < μ0 [v7] [L3, L4]))))))) ∧
((v11 ≠ (2 : Int)) → ((v11 = (3 : Int)) → (Go.Sx.L2.cDrop).rel.pre [v0, v6, v13, v15] [L3] ∧
(∀ v32 : Int, ∀ v33 : Int, ∀ v34 : Int, ∀ v35 : Int, ∀ v36 : Int, ∀ L5 : List Int, ∀ L6 : List Int, (Go.Sx.L2.cDrop).rel.post [v0, v6, v13, v15] [L3] [v32, v33, v34, v35, v36] [L5, L6] → ((v36 ≠ (2 : Int)) → False) ∧
((v36 = (2 : Int)) → ∀ L7 : List Int, L7 = [] → (Go.Sx.L2.lPlaces).rel.pre [v32, v33, v34, v35, (0 : Int), (0 : Int), (0 : Int), (0 : Int)] [L5, L7] ∧
(∀ v38 : Int, (Go.Sx.L2.lPlaces).rel.post [v32, v33, v34, v35, (0 : Int), (0 : Int), (0 : Int), (0 : Int)] [L5, L7] [v38] [] → ∀ v39 : Int, v39 = b2i (v38 == 0) → (v39 ≠ 0 → False) ∧
(v39 = 0 → (Go.Sx.L2.lSame).rel.pre [v0, v6] [L6, L4] ∧
((Go.Sx.L2.lSame).rel.post [v0, v6] [L6, L4] [] [] → ∀ v40 : Int, v40 = v7 + (1 : Int) → (I0 [v40] [L6, L4] ∧ μ0 [v40] [L6, L4] < μ0 [v7] [L3, L4]))))))) ∧
((v11 ≠ (3 : Int)) → (Go.Sx.L2.cBelow).rel.pre [v0, v6, v13, v15] [L3] ∧
(∀ v32 : Int, ∀ v33 : Int, ∀ v34 : Int, ∀ v35 : Int, ∀ L5 : List Int, (Go.Sx.L2.cBelow).rel.post [v0, v6, v13, v15] [L3] [v32, v33, v34, v35] [L5] → ∀ L6 : List Int, L6 = [] → (Go.Sx.L2.lPlaces).rel.pre [v32, v33, v34, v35, (0 : Int), (0 : Int), (0 : Int), (0 : Int)] [L5, L6] ∧
(∀ v36 : Int, (Go.Sx.L2.lPlaces).rel.post [v32, v33, v34, v35, (0 : Int), (0 : Int), (0 : Int), (0 : Int)] [L5, L6] [v36] [] → ∀ v37 : Int, v37 = b2i (v36 == 0) → (v37 ≠ 0 → False) ∧
(v37 = 0 → (Go.Sx.L2.lSame).rel.pre [v0, v6] [L3, L4] ∧
((Go.Sx.L2.lSame).rel.post [v0, v6] [L3, L4] [] [] → ∀ v38 : Int, v38 = v7 + (1 : Int) → (I0 [v38] [L3, L4] ∧ μ0 [v38] [L3, L4] < μ0 [v7] [L3, L4])))))))))) ∧
(((v11 = (0 : Int)) → (Go.Sx.L2.cRoot).rel.pre [v0, v6, v13, v15, v23] [L3] ∧
(∀ v29 : Int, ∀ L5 : List Int, (Go.Sx.L2.cRoot).rel.post [v0, v6, v13, v15, v23] [L3] [v29] [L5] → ((v29 ≠ (2 : Int)) → False) ∧
((v29 = (2 : Int)) → (Go.Sx.L2.lSame).rel.pre [v0, v6] [L5, L4] ∧
((Go.Sx.L2.lSame).rel.post [v0, v6] [L5, L4] [] [] → ∀ v31 : Int, v31 = v7 + (1 : Int) → (I0 [v31] [L5, L4] ∧ μ0 [v31] [L5, L4] < μ0 [v7] [L3, L4]))))) ∧
((v11 ≠ (0 : Int)) → ((v11 = (1 : Int)) → (Go.Sx.L2.lDer).rel.pre [v0, v11, v13, v15, v17, v19, v21, v23, (0 : Int)] [L4] ∧
(∀ v30 : Int, ∀ L5 : List Int, (Go.Sx.L2.lDer).rel.post [v0, v11, v13, v15, v17, v19, v21, v23, (0 : Int)] [L4] [v30] [L5] → (Go.Sx.L2.cDer).rel.pre [v0, v6, v13, v15, v17, v19, v21] [L3] ∧
(∀ v31 : Int, ∀ L6 : List Int, (Go.Sx.L2.cDer).rel.post [v0, v6, v13, v15, v17, v19, v21] [L3] [v31] [L6] → ((v30 ≠ v31) → False) ∧
((v30 = v31) → (Go.Sx.L2.lSame).rel.pre [v0, v6] [L6, L5] ∧
((Go.Sx.L2.lSame).rel.post [v0, v6] [L6, L5] [] [] → ∀ v33 : Int, v33 = v7 + (1 : Int) → (I0 [v33] [L6, L5] ∧ μ0 [v33] [L6, L5] < μ0 [v7] [L3, L4])))))) ∧
((v11 ≠ (1 : Int)) → ((v11 = (2 : Int)) → (Go.Sx.L2.cRevoke).rel.pre [v0, v6, v13, v15] [L3] ∧
(∀ v31 : Int, ∀ v32 : Int, ∀ v33 : Int, ∀ v34 : Int, ∀ v35 : Int, ∀ L5 : List Int, ∀ L6 : List Int, (Go.Sx.L2.cRevoke).rel.post [v0, v6, v13, v15] [L3] [v31, v32, v33, v34, v35] [L5, L6] → ((v35 ≠ (2 : Int)) → False) ∧
((v35 = (2 : Int)) → ∀ L7 : List Int, L7 = [] → (Go.Sx.L2.lPlaces).rel.pre [v31, v32, v33, v34, (0 : Int), (0 : Int), (0 : Int), (0 : Int)] [L5, L7] ∧
(∀ v37 : Int, (Go.Sx.L2.lPlaces).rel.post [v31, v32, v33, v34, (0 : Int), (0 : Int), (0 : Int), (0 : Int)] [L5, L7] [v37] [] → ∀ v38 : Int, v38 = b2i (v37 == 0) → (v38 ≠ 0 → False) ∧
(v38 = 0 → (Go.Sx.L2.lSame).rel.pre [v0, v6] [L6, L4] ∧
((Go.Sx.L2.lSame).rel.post [v0, v6] [L6, L4] [] [] → ∀ v39 : Int, v39 = v7 + (1 : Int) → (I0 [v39] [L6, L4] ∧ μ0 [v39] [L6, L4] < μ0 [v7] [L3, L4]))))))) ∧
((v11 ≠ (2 : Int)) → ((v11 = (3 : Int)) → (Go.Sx.L2.cDrop).rel.pre [v0, v6, v13, v15] [L3] ∧
(∀ v32 : Int, ∀ v33 : Int, ∀ v34 : Int, ∀ v35 : Int, ∀ v36 : Int, ∀ L5 : List Int, ∀ L6 : List Int, (Go.Sx.L2.cDrop).rel.post [v0, v6, v13, v15] [L3] [v32, v33, v34, v35, v36] [L5, L6] → ((v36 ≠ (2 : Int)) → False) ∧
((v36 = (2 : Int)) → ∀ L7 : List Int, L7 = [] → (Go.Sx.L2.lPlaces).rel.pre [v32, v33, v34, v35, (0 : Int), (0 : Int), (0 : Int), (0 : Int)] [L5, L7] ∧
(∀ v38 : Int, (Go.Sx.L2.lPlaces).rel.post [v32, v33, v34, v35, (0 : Int), (0 : Int), (0 : Int), (0 : Int)] [L5, L7] [v38] [] → ∀ v39 : Int, v39 = b2i (v38 == 0) → (v39 ≠ 0 → False) ∧
(v39 = 0 → (Go.Sx.L2.lSame).rel.pre [v0, v6] [L6, L4] ∧
((Go.Sx.L2.lSame).rel.post [v0, v6] [L6, L4] [] [] → ∀ v40 : Int, v40 = v7 + (1 : Int) → (I0 [v40] [L6, L4] ∧ μ0 [v40] [L6, L4] < μ0 [v7] [L3, L4]))))))) ∧
((v11 ≠ (3 : Int)) → (Go.Sx.L2.cBelow).rel.pre [v0, v6, v13, v15] [L3] ∧
(∀ v32 : Int, ∀ v33 : Int, ∀ v34 : Int, ∀ v35 : Int, ∀ L5 : List Int, (Go.Sx.L2.cBelow).rel.post [v0, v6, v13, v15] [L3] [v32, v33, v34, v35] [L5] → ∀ L6 : List Int, L6 = [] → (Go.Sx.L2.lPlaces).rel.pre [v32, v33, v34, v35, (0 : Int), (0 : Int), (0 : Int), (0 : Int)] [L5, L6] ∧
(∀ v36 : Int, (Go.Sx.L2.lPlaces).rel.post [v32, v33, v34, v35, (0 : Int), (0 : Int), (0 : Int), (0 : Int)] [L5, L6] [v36] [] → ∀ v37 : Int, v37 = b2i (v36 == 0) → (v37 ≠ 0 → False) ∧
(v37 = 0 → (Go.Sx.L2.lSame).rel.pre [v0, v6] [L3, L4] ∧
((Go.Sx.L2.lSame).rel.post [v0, v6] [L3, L4] [] [] → ∀ v38 : Int, v38 = v7 + (1 : Int) → (I0 [v38] [L3, L4] ∧ μ0 [v38] [L3, L4] < μ0 [v7] [L3, L4])))))))))))) ∧
((v0 ≤ v13) → ∀ v26 : Int, v26 = (if (3 : Int) < v13 then (3 : Int) else v13) → ∀ v27 : Int, v27 = (if (7 : Int) < v15 then (7 : Int) else v15) → ∀ v28 : Int, v28 = (if v27 > (0 : Int) then v27 else (0 : Int)) → (((v11 = (0 : Int)) → (Go.Sx.L2.cRoot).rel.pre [v0, v6, v13, v15, v23] [L3] ∧
(∀ v30 : Int, ∀ L5 : List Int, (Go.Sx.L2.cRoot).rel.post [v0, v6, v13, v15, v23] [L3] [v30] [L5] → ((v30 ≠ (2 : Int)) → False) ∧
((v30 = (2 : Int)) → (Go.Sx.L2.lSame).rel.pre [v0, v6] [L5, L4] ∧
((Go.Sx.L2.lSame).rel.post [v0, v6] [L5, L4] [] [] → ∀ v32 : Int, v32 = v7 + (1 : Int) → (I0 [v32] [L5, L4] ∧ μ0 [v32] [L5, L4] < μ0 [v7] [L3, L4]))))) ∧
((v11 ≠ (0 : Int)) → ((v11 = (1 : Int)) → (Go.Sx.L2.lDer).rel.pre [v0, v11, v13, v15, v17, v19, v21, v23, (0 : Int)] [L4] ∧
(∀ v31 : Int, ∀ L5 : List Int, (Go.Sx.L2.lDer).rel.post [v0, v11, v13, v15, v17, v19, v21, v23, (0 : Int)] [L4] [v31] [L5] → (Go.Sx.L2.cDer).rel.pre [v0, v6, v13, v15, v17, v19, v21] [L3] ∧
(∀ v32 : Int, ∀ L6 : List Int, (Go.Sx.L2.cDer).rel.post [v0, v6, v13, v15, v17, v19, v21] [L3] [v32] [L6] → ((v31 ≠ v32) → False) ∧
((v31 = v32) → (Go.Sx.L2.lSame).rel.pre [v0, v6] [L6, L5] ∧
((Go.Sx.L2.lSame).rel.post [v0, v6] [L6, L5] [] [] → ∀ v34 : Int, v34 = v7 + (1 : Int) → (I0 [v34] [L6, L5] ∧ μ0 [v34] [L6, L5] < μ0 [v7] [L3, L4])))))) ∧
((v11 ≠ (1 : Int)) → ((v11 = (2 : Int)) → (Go.Sx.L2.cRevoke).rel.pre [v0, v6, v13, v15] [L3] ∧
(∀ v32 : Int, ∀ v33 : Int, ∀ v34 : Int, ∀ v35 : Int, ∀ v36 : Int, ∀ L5 : List Int, ∀ L6 : List Int, (Go.Sx.L2.cRevoke).rel.post [v0, v6, v13, v15] [L3] [v32, v33, v34, v35, v36] [L5, L6] → ((v36 ≠ (2 : Int)) → False) ∧
((v36 = (2 : Int)) → ∀ L7 : List Int, L7 = [] → (Go.Sx.L2.lPlaces).rel.pre [v32, v33, v34, v35, (0 : Int), (0 : Int), (0 : Int), (0 : Int)] [L5, L7] ∧
(∀ v38 : Int, (Go.Sx.L2.lPlaces).rel.post [v32, v33, v34, v35, (0 : Int), (0 : Int), (0 : Int), (0 : Int)] [L5, L7] [v38] [] → ∀ v39 : Int, v39 = b2i (v38 == 0) → (v39 ≠ 0 → False) ∧
(v39 = 0 → (Go.Sx.L2.lSame).rel.pre [v0, v6] [L6, L4] ∧
((Go.Sx.L2.lSame).rel.post [v0, v6] [L6, L4] [] [] → ∀ v40 : Int, v40 = v7 + (1 : Int) → (I0 [v40] [L6, L4] ∧ μ0 [v40] [L6, L4] < μ0 [v7] [L3, L4]))))))) ∧
((v11 ≠ (2 : Int)) → ((v11 = (3 : Int)) → (Go.Sx.L2.cDrop).rel.pre [v0, v6, v13, v15] [L3] ∧
(∀ v33 : Int, ∀ v34 : Int, ∀ v35 : Int, ∀ v36 : Int, ∀ v37 : Int, ∀ L5 : List Int, ∀ L6 : List Int, (Go.Sx.L2.cDrop).rel.post [v0, v6, v13, v15] [L3] [v33, v34, v35, v36, v37] [L5, L6] → ((v37 ≠ (2 : Int)) → False) ∧
((v37 = (2 : Int)) → ∀ L7 : List Int, L7 = [] → (Go.Sx.L2.lPlaces).rel.pre [v33, v34, v35, v36, (0 : Int), (0 : Int), (0 : Int), (0 : Int)] [L5, L7] ∧
(∀ v39 : Int, (Go.Sx.L2.lPlaces).rel.post [v33, v34, v35, v36, (0 : Int), (0 : Int), (0 : Int), (0 : Int)] [L5, L7] [v39] [] → ∀ v40 : Int, v40 = b2i (v39 == 0) → (v40 ≠ 0 → False) ∧
(v40 = 0 → (Go.Sx.L2.lSame).rel.pre [v0, v6] [L6, L4] ∧
((Go.Sx.L2.lSame).rel.post [v0, v6] [L6, L4] [] [] → ∀ v41 : Int, v41 = v7 + (1 : Int) → (I0 [v41] [L6, L4] ∧ μ0 [v41] [L6, L4] < μ0 [v7] [L3, L4]))))))) ∧
((v11 ≠ (3 : Int)) → (Go.Sx.L2.cBelow).rel.pre [v0, v6, v13, v15] [L3] ∧
(∀ v33 : Int, ∀ v34 : Int, ∀ v35 : Int, ∀ v36 : Int, ∀ L5 : List Int, (Go.Sx.L2.cBelow).rel.post [v0, v6, v13, v15] [L3] [v33, v34, v35, v36] [L5] → ∀ L6 : List Int, L6 = [] → (Go.Sx.L2.lPlaces).rel.pre [v33, v34, v35, v36, (0 : Int), (0 : Int), (0 : Int), (0 : Int)] [L5, L6] ∧
(∀ v37 : Int, (Go.Sx.L2.lPlaces).rel.post [v33, v34, v35, v36, (0 : Int), (0 : Int), (0 : Int), (0 : Int)] [L5, L6] [v37] [] → ∀ v38 : Int, v38 = b2i (v37 == 0) → (v38 ≠ 0 → False) ∧
(v38 = 0 → (Go.Sx.L2.lSame).rel.pre [v0, v6] [L3, L4] ∧
((Go.Sx.L2.lSame).rel.post [v0, v6] [L3, L4] [] [] → ∀ v39 : Int, v39 = v7 + (1 : Int) → (I0 [v39] [L3, L4] ∧ μ0 [v39] [L3, L4] < μ0 [v7] [L3, L4])))))))))) ∧
(((v11 = (0 : Int)) → (Go.Sx.L2.cRoot).rel.pre [v0, v6, v13, v15, v23] [L3] ∧
(∀ v30 : Int, ∀ L5 : List Int, (Go.Sx.L2.cRoot).rel.post [v0, v6, v13, v15, v23] [L3] [v30] [L5] → ((v30 ≠ (2 : Int)) → False) ∧
((v30 = (2 : Int)) → (Go.Sx.L2.lSame).rel.pre [v0, v6] [L5, L4] ∧
((Go.Sx.L2.lSame).rel.post [v0, v6] [L5, L4] [] [] → ∀ v32 : Int, v32 = v7 + (1 : Int) → (I0 [v32] [L5, L4] ∧ μ0 [v32] [L5, L4] < μ0 [v7] [L3, L4]))))) ∧
((v11 ≠ (0 : Int)) → ((v11 = (1 : Int)) → (Go.Sx.L2.lDer).rel.pre [v0, v11, v13, v15, v17, v19, v21, v23, (0 : Int)] [L4] ∧
(∀ v31 : Int, ∀ L5 : List Int, (Go.Sx.L2.lDer).rel.post [v0, v11, v13, v15, v17, v19, v21, v23, (0 : Int)] [L4] [v31] [L5] → (Go.Sx.L2.cDer).rel.pre [v0, v6, v13, v15, v17, v19, v21] [L3] ∧
(∀ v32 : Int, ∀ L6 : List Int, (Go.Sx.L2.cDer).rel.post [v0, v6, v13, v15, v17, v19, v21] [L3] [v32] [L6] → ((v31 ≠ v32) → False) ∧
((v31 = v32) → (Go.Sx.L2.lSame).rel.pre [v0, v6] [L6, L5] ∧
((Go.Sx.L2.lSame).rel.post [v0, v6] [L6, L5] [] [] → ∀ v34 : Int, v34 = v7 + (1 : Int) → (I0 [v34] [L6, L5] ∧ μ0 [v34] [L6, L5] < μ0 [v7] [L3, L4])))))) ∧
((v11 ≠ (1 : Int)) → ((v11 = (2 : Int)) → (Go.Sx.L2.cRevoke).rel.pre [v0, v6, v13, v15] [L3] ∧
(∀ v32 : Int, ∀ v33 : Int, ∀ v34 : Int, ∀ v35 : Int, ∀ v36 : Int, ∀ L5 : List Int, ∀ L6 : List Int, (Go.Sx.L2.cRevoke).rel.post [v0, v6, v13, v15] [L3] [v32, v33, v34, v35, v36] [L5, L6] → ((v36 ≠ (2 : Int)) → False) ∧
((v36 = (2 : Int)) → ∀ L7 : List Int, L7 = [] → (Go.Sx.L2.lPlaces).rel.pre [v32, v33, v34, v35, (0 : Int), (0 : Int), (0 : Int), (0 : Int)] [L5, L7] ∧
(∀ v38 : Int, (Go.Sx.L2.lPlaces).rel.post [v32, v33, v34, v35, (0 : Int), (0 : Int), (0 : Int), (0 : Int)] [L5, L7] [v38] [] → ∀ v39 : Int, v39 = b2i (v38 == 0) → (v39 ≠ 0 → False) ∧
(v39 = 0 → (Go.Sx.L2.lSame).rel.pre [v0, v6] [L6, L4] ∧
((Go.Sx.L2.lSame).rel.post [v0, v6] [L6, L4] [] [] → ∀ v40 : Int, v40 = v7 + (1 : Int) → (I0 [v40] [L6, L4] ∧ μ0 [v40] [L6, L4] < μ0 [v7] [L3, L4]))))))) ∧
((v11 ≠ (2 : Int)) → ((v11 = (3 : Int)) → (Go.Sx.L2.cDrop).rel.pre [v0, v6, v13, v15] [L3] ∧
(∀ v33 : Int, ∀ v34 : Int, ∀ v35 : Int, ∀ v36 : Int, ∀ v37 : Int, ∀ L5 : List Int, ∀ L6 : List Int, (Go.Sx.L2.cDrop).rel.post [v0, v6, v13, v15] [L3] [v33, v34, v35, v36, v37] [L5, L6] → ((v37 ≠ (2 : Int)) → False) ∧
((v37 = (2 : Int)) → ∀ L7 : List Int, L7 = [] → (Go.Sx.L2.lPlaces).rel.pre [v33, v34, v35, v36, (0 : Int), (0 : Int), (0 : Int), (0 : Int)] [L5, L7] ∧
(∀ v39 : Int, (Go.Sx.L2.lPlaces).rel.post [v33, v34, v35, v36, (0 : Int), (0 : Int), (0 : Int), (0 : Int)] [L5, L7] [v39] [] → ∀ v40 : Int, v40 = b2i (v39 == 0) → (v40 ≠ 0 → False) ∧
(v40 = 0 → (Go.Sx.L2.lSame).rel.pre [v0, v6] [L6, L4] ∧
((Go.Sx.L2.lSame).rel.post [v0, v6] [L6, L4] [] [] → ∀ v41 : Int, v41 = v7 + (1 : Int) → (I0 [v41] [L6, L4] ∧ μ0 [v41] [L6, L4] < μ0 [v7] [L3, L4]))))))) ∧
((v11 ≠ (3 : Int)) → (Go.Sx.L2.cBelow).rel.pre [v0, v6, v13, v15] [L3] ∧
(∀ v33 : Int, ∀ v34 : Int, ∀ v35 : Int, ∀ v36 : Int, ∀ L5 : List Int, (Go.Sx.L2.cBelow).rel.post [v0, v6, v13, v15] [L3] [v33, v34, v35, v36] [L5] → ∀ L6 : List Int, L6 = [] → (Go.Sx.L2.lPlaces).rel.pre [v33, v34, v35, v36, (0 : Int), (0 : Int), (0 : Int), (0 : Int)] [L5, L6] ∧
(∀ v37 : Int, (Go.Sx.L2.lPlaces).rel.post [v33, v34, v35, v36, (0 : Int), (0 : Int), (0 : Int), (0 : Int)] [L5, L6] [v37] [] → ∀ v38 : Int, v38 = b2i (v37 == 0) → (v38 ≠ 0 → False) ∧
(v38 = 0 → (Go.Sx.L2.lSame).rel.pre [v0, v6] [L3, L4] ∧
((Go.Sx.L2.lSame).rel.post [v0, v6] [L3, L4] [] [] → ∀ v39 : Int, v39 = v7 + (1 : Int) → (I0 [v39] [L3, L4] ∧ μ0 [v39] [L3, L4] < μ0 [v7] [L3, L4])))))))))))) ∧
((v13 < (0 : Int)) → ∀ v25 : Int, v25 = (if (7 : Int) < v15 then (7 : Int) else v15) → ∀ v26 : Int, v26 = (if v25 > (0 : Int) then v25 else (0 : Int)) → (((v11 = (0 : Int)) → (Go.Sx.L2.cRoot).rel.pre [v0, v6, v13, v15, v23] [L3] ∧
(∀ v28 : Int, ∀ L5 : List Int, (Go.Sx.L2.cRoot).rel.post [v0, v6, v13, v15, v23] [L3] [v28] [L5] → ((v28 ≠ (2 : Int)) → False) ∧
((v28 = (2 : Int)) → (Go.Sx.L2.lSame).rel.pre [v0, v6] [L5, L4] ∧
((Go.Sx.L2.lSame).rel.post [v0, v6] [L5, L4] [] [] → ∀ v30 : Int, v30 = v7 + (1 : Int) → (I0 [v30] [L5, L4] ∧ μ0 [v30] [L5, L4] < μ0 [v7] [L3, L4]))))) ∧
((v11 ≠ (0 : Int)) → ((v11 = (1 : Int)) → (Go.Sx.L2.lDer).rel.pre [v0, v11, v13, v15, v17, v19, v21, v23, (0 : Int)] [L4] ∧
(∀ v29 : Int, ∀ L5 : List Int, (Go.Sx.L2.lDer).rel.post [v0, v11, v13, v15, v17, v19, v21, v23, (0 : Int)] [L4] [v29] [L5] → (Go.Sx.L2.cDer).rel.pre [v0, v6, v13, v15, v17, v19, v21] [L3] ∧
(∀ v30 : Int, ∀ L6 : List Int, (Go.Sx.L2.cDer).rel.post [v0, v6, v13, v15, v17, v19, v21] [L3] [v30] [L6] → ((v29 ≠ v30) → False) ∧
((v29 = v30) → (Go.Sx.L2.lSame).rel.pre [v0, v6] [L6, L5] ∧
((Go.Sx.L2.lSame).rel.post [v0, v6] [L6, L5] [] [] → ∀ v32 : Int, v32 = v7 + (1 : Int) → (I0 [v32] [L6, L5] ∧ μ0 [v32] [L6, L5] < μ0 [v7] [L3, L4])))))) ∧
((v11 ≠ (1 : Int)) → ((v11 = (2 : Int)) → (Go.Sx.L2.cRevoke).rel.pre [v0, v6, v13, v15] [L3] ∧
(∀ v30 : Int, ∀ v31 : Int, ∀ v32 : Int, ∀ v33 : Int, ∀ v34 : Int, ∀ L5 : List Int, ∀ L6 : List Int, (Go.Sx.L2.cRevoke).rel.post [v0, v6, v13, v15] [L3] [v30, v31, v32, v33, v34] [L5, L6] → ((v34 ≠ (2 : Int)) → False) ∧
((v34 = (2 : Int)) → ∀ L7 : List Int, L7 = [] → (Go.Sx.L2.lPlaces).rel.pre [v30, v31, v32, v33, (0 : Int), (0 : Int), (0 : Int), (0 : Int)] [L5, L7] ∧
(∀ v36 : Int, (Go.Sx.L2.lPlaces).rel.post [v30, v31, v32, v33, (0 : Int), (0 : Int), (0 : Int), (0 : Int)] [L5, L7] [v36] [] → ∀ v37 : Int, v37 = b2i (v36 == 0) → (v37 ≠ 0 → False) ∧
(v37 = 0 → (Go.Sx.L2.lSame).rel.pre [v0, v6] [L6, L4] ∧
((Go.Sx.L2.lSame).rel.post [v0, v6] [L6, L4] [] [] → ∀ v38 : Int, v38 = v7 + (1 : Int) → (I0 [v38] [L6, L4] ∧ μ0 [v38] [L6, L4] < μ0 [v7] [L3, L4]))))))) ∧
((v11 ≠ (2 : Int)) → ((v11 = (3 : Int)) → (Go.Sx.L2.cDrop).rel.pre [v0, v6, v13, v15] [L3] ∧
(∀ v31 : Int, ∀ v32 : Int, ∀ v33 : Int, ∀ v34 : Int, ∀ v35 : Int, ∀ L5 : List Int, ∀ L6 : List Int, (Go.Sx.L2.cDrop).rel.post [v0, v6, v13, v15] [L3] [v31, v32, v33, v34, v35] [L5, L6] → ((v35 ≠ (2 : Int)) → False) ∧
((v35 = (2 : Int)) → ∀ L7 : List Int, L7 = [] → (Go.Sx.L2.lPlaces).rel.pre [v31, v32, v33, v34, (0 : Int), (0 : Int), (0 : Int), (0 : Int)] [L5, L7] ∧
(∀ v37 : Int, (Go.Sx.L2.lPlaces).rel.post [v31, v32, v33, v34, (0 : Int), (0 : Int), (0 : Int), (0 : Int)] [L5, L7] [v37] [] → ∀ v38 : Int, v38 = b2i (v37 == 0) → (v38 ≠ 0 → False) ∧
(v38 = 0 → (Go.Sx.L2.lSame).rel.pre [v0, v6] [L6, L4] ∧
((Go.Sx.L2.lSame).rel.post [v0, v6] [L6, L4] [] [] → ∀ v39 : Int, v39 = v7 + (1 : Int) → (I0 [v39] [L6, L4] ∧ μ0 [v39] [L6, L4] < μ0 [v7] [L3, L4]))))))) ∧
((v11 ≠ (3 : Int)) → (Go.Sx.L2.cBelow).rel.pre [v0, v6, v13, v15] [L3] ∧
(∀ v31 : Int, ∀ v32 : Int, ∀ v33 : Int, ∀ v34 : Int, ∀ L5 : List Int, (Go.Sx.L2.cBelow).rel.post [v0, v6, v13, v15] [L3] [v31, v32, v33, v34] [L5] → ∀ L6 : List Int, L6 = [] → (Go.Sx.L2.lPlaces).rel.pre [v31, v32, v33, v34, (0 : Int), (0 : Int), (0 : Int), (0 : Int)] [L5, L6] ∧
(∀ v35 : Int, (Go.Sx.L2.lPlaces).rel.post [v31, v32, v33, v34, (0 : Int), (0 : Int), (0 : Int), (0 : Int)] [L5, L6] [v35] [] → ∀ v36 : Int, v36 = b2i (v35 == 0) → (v36 ≠ 0 → False) ∧
(v36 = 0 → (Go.Sx.L2.lSame).rel.pre [v0, v6] [L3, L4] ∧
((Go.Sx.L2.lSame).rel.post [v0, v6] [L3, L4] [] [] → ∀ v37 : Int, v37 = v7 + (1 : Int) → (I0 [v37] [L3, L4] ∧ μ0 [v37] [L3, L4] < μ0 [v7] [L3, L4])))))))))) ∧
(((v11 = (0 : Int)) → (Go.Sx.L2.cRoot).rel.pre [v0, v6, v13, v15, v23] [L3] ∧
(∀ v28 : Int, ∀ L5 : List Int, (Go.Sx.L2.cRoot).rel.post [v0, v6, v13, v15, v23] [L3] [v28] [L5] → ((v28 ≠ (2 : Int)) → False) ∧
((v28 = (2 : Int)) → (Go.Sx.L2.lSame).rel.pre [v0, v6] [L5, L4] ∧
((Go.Sx.L2.lSame).rel.post [v0, v6] [L5, L4] [] [] → ∀ v30 : Int, v30 = v7 + (1 : Int) → (I0 [v30] [L5, L4] ∧ μ0 [v30] [L5, L4] < μ0 [v7] [L3, L4]))))) ∧
((v11 ≠ (0 : Int)) → ((v11 = (1 : Int)) → (Go.Sx.L2.lDer).rel.pre [v0, v11, v13, v15, v17, v19, v21, v23, (0 : Int)] [L4] ∧
(∀ v29 : Int, ∀ L5 : List Int, (Go.Sx.L2.lDer).rel.post [v0, v11, v13, v15, v17, v19, v21, v23, (0 : Int)] [L4] [v29] [L5] → (Go.Sx.L2.cDer).rel.pre [v0, v6, v13, v15, v17, v19, v21] [L3] ∧
(∀ v30 : Int, ∀ L6 : List Int, (Go.Sx.L2.cDer).rel.post [v0, v6, v13, v15, v17, v19, v21] [L3] [v30] [L6] → ((v29 ≠ v30) → False) ∧
((v29 = v30) → (Go.Sx.L2.lSame).rel.pre [v0, v6] [L6, L5] ∧
((Go.Sx.L2.lSame).rel.post [v0, v6] [L6, L5] [] [] → ∀ v32 : Int, v32 = v7 + (1 : Int) → (I0 [v32] [L6, L5] ∧ μ0 [v32] [L6, L5] < μ0 [v7] [L3, L4])))))) ∧
((v11 ≠ (1 : Int)) → ((v11 = (2 : Int)) → (Go.Sx.L2.cRevoke).rel.pre [v0, v6, v13, v15] [L3] ∧
(∀ v30 : Int, ∀ v31 : Int, ∀ v32 : Int, ∀ v33 : Int, ∀ v34 : Int, ∀ L5 : List Int, ∀ L6 : List Int, (Go.Sx.L2.cRevoke).rel.post [v0, v6, v13, v15] [L3] [v30, v31, v32, v33, v34] [L5, L6] → ((v34 ≠ (2 : Int)) → False) ∧
((v34 = (2 : Int)) → ∀ L7 : List Int, L7 = [] → (Go.Sx.L2.lPlaces).rel.pre [v30, v31, v32, v33, (0 : Int), (0 : Int), (0 : Int), (0 : Int)] [L5, L7] ∧
(∀ v36 : Int, (Go.Sx.L2.lPlaces).rel.post [v30, v31, v32, v33, (0 : Int), (0 : Int), (0 : Int), (0 : Int)] [L5, L7] [v36] [] → ∀ v37 : Int, v37 = b2i (v36 == 0) → (v37 ≠ 0 → False) ∧
(v37 = 0 → (Go.Sx.L2.lSame).rel.pre [v0, v6] [L6, L4] ∧
((Go.Sx.L2.lSame).rel.post [v0, v6] [L6, L4] [] [] → ∀ v38 : Int, v38 = v7 + (1 : Int) → (I0 [v38] [L6, L4] ∧ μ0 [v38] [L6, L4] < μ0 [v7] [L3, L4]))))))) ∧
((v11 ≠ (2 : Int)) → ((v11 = (3 : Int)) → (Go.Sx.L2.cDrop).rel.pre [v0, v6, v13, v15] [L3] ∧
(∀ v31 : Int, ∀ v32 : Int, ∀ v33 : Int, ∀ v34 : Int, ∀ v35 : Int, ∀ L5 : List Int, ∀ L6 : List Int, (Go.Sx.L2.cDrop).rel.post [v0, v6, v13, v15] [L3] [v31, v32, v33, v34, v35] [L5, L6] → ((v35 ≠ (2 : Int)) → False) ∧
((v35 = (2 : Int)) → ∀ L7 : List Int, L7 = [] → (Go.Sx.L2.lPlaces).rel.pre [v31, v32, v33, v34, (0 : Int), (0 : Int), (0 : Int), (0 : Int)] [L5, L7] ∧
(∀ v37 : Int, (Go.Sx.L2.lPlaces).rel.post [v31, v32, v33, v34, (0 : Int), (0 : Int), (0 : Int), (0 : Int)] [L5, L7] [v37] [] → ∀ v38 : Int, v38 = b2i (v37 == 0) → (v38 ≠ 0 → False) ∧
(v38 = 0 → (Go.Sx.L2.lSame).rel.pre [v0, v6] [L6, L4] ∧
((Go.Sx.L2.lSame).rel.post [v0, v6] [L6, L4] [] [] → ∀ v39 : Int, v39 = v7 + (1 : Int) → (I0 [v39] [L6, L4] ∧ μ0 [v39] [L6, L4] < μ0 [v7] [L3, L4]))))))) ∧
((v11 ≠ (3 : Int)) → (Go.Sx.L2.cBelow).rel.pre [v0, v6, v13, v15] [L3] ∧
(∀ v31 : Int, ∀ v32 : Int, ∀ v33 : Int, ∀ v34 : Int, ∀ L5 : List Int, (Go.Sx.L2.cBelow).rel.post [v0, v6, v13, v15] [L3] [v31, v32, v33, v34] [L5] → ∀ L6 : List Int, L6 = [] → (Go.Sx.L2.lPlaces).rel.pre [v31, v32, v33, v34, (0 : Int), (0 : Int), (0 : Int), (0 : Int)] [L5, L6] ∧
(∀ v35 : Int, (Go.Sx.L2.lPlaces).rel.post [v31, v32, v33, v34, (0 : Int), (0 : Int), (0 : Int), (0 : Int)] [L5, L6] [v35] [] → ∀ v36 : Int, v36 = b2i (v35 == 0) → (v36 ≠ 0 → False) ∧
(v36 = 0 → (Go.Sx.L2.lSame).rel.pre [v0, v6] [L3, L4] ∧
((Go.Sx.L2.lSame).rel.post [v0, v6] [L3, L4] [] [] → ∀ v37 : Int, v37 = v7 + (1 : Int) → (I0 [v37] [L3, L4] ∧ μ0 [v37] [L3, L4] < μ0 [v7] [L3, L4])))))))))))) ∧
(((50 : Int) ≤ v7) → Q [] [])) ∧
((v1 ≤ v7) → Q [] []))))))) := by kernel_rfl
set_option maxHeartbeats 4000000 in
theorem capsAll_holds0 : (lawSpec L2.f_messuagelaw11_CapsAll [.one (.i .i64), .slc L2.ks7]).Holds Tryz.prog L2.ro := FSpec.holdsV (cfg := withS (L2.cfgB Tryz.prog) [L2.rKNewV, L2.cRoot, L2.cDer, L2.cRevoke, L2.cDrop, L2.cBelow, L2.rBelow, L2.lGone, L2.lPlaces, L2.lDer, L2.lSame]) [{ f := L2.f_messuagelaw11_CapsAll, reg := 9, ints := [(8, 0, 50)], lists := [(6, [0], some (-9223372036854775808, 9223372036854775807)), (7, [], some (-9223372036854775808, 18446744073709551615))] }] 20 200 (withS_ok cfgB_ok ⟨rKNewV_holds, cRoot_holds, cDer_holds, cRevoke_holds, cDrop_holds, cBelow_holds, rBelow_holds, lGone_holds, lPlaces_holds, lDer_holds, lSame_holds, trivial⟩) mixed (t := CapsAll_t) CapsAll_tree (by
  show ∀ (v0 v1 v2 v3 : Int) (L0 : List Int), _
  intro v0 v1 v2 v3 L0 hp hr hl
  replace hr : ((-9223372036854775808 : Int) ≤ v0 ∧ v0 ≤ (9223372036854775807 : Int)) ∧ ((0 : Int) ≤ v1 ∧ v1 ≤ (9223372036854775807 : Int)) ∧ ((0 : Int) ≤ v2 ∧ v2 ≤ (9223372036854775807 : Int)) ∧ ((0 : Int) ≤ v3 ∧ v3 ≤ (9223372036854775807 : Int) * ((7 : Nat) : Int)) ∧ True := hr
  replace hp : (True ∧ ((0 : Int) ≤ v1 ∧ v1 ≤ v2 ∧ (L0.length : Int) = v1 * ((7 : Nat) : Int) ∧ ((7 : Nat) ≠ 1 → v3 = v1 * ((7 : Nat) : Int)) ∧ ∀ j, j < L0.length → ((oneKind L2.ks7).getD (j % (oneKind L2.ks7).length) (.i .i64)).lo ≤ L0.getD j 0 ∧ L0.getD j 0 ≤ ((oneKind L2.ks7).getD (j % (oneKind L2.ks7).length) (.i .i64)).hi)) := hp
  show CapsAll_t.dn ⟨_, []⟩ 4 [v3, v2, v1, v0] 1 [L0]
  rw [CapsAll_vc]
  show ((L2.yes L2.f_messuagelaw11_begun).rel.pre [] [] ∧ _)
  refine ⟨trivial, fun _ => ?_⟩
  have hv3 : v3 = v1 * 7 := by have := hp.2.2.2.2.1 (by decide); omega
  clear hp hl
  refine ⟨fun _ => trivial, fun n1 => ⟨fun _ => trivial, fun n4 => ?_⟩⟩
  intro v6 e6 T0 eT
  refine ⟨trivial, fun W0 qW => ?_⟩
  have hW0 : W0 = 1 :: v0 :: 16 :: List.replicate 512 0 := (List.cons.inj qW.2).1
  refine ⟨fun xs ys => match xs, ys with | [i], [T, W] => 0 ≤ i ∧ TI v0 T W | _, _ => False, fun xs _ => match xs with | i :: _ => (50 - i).toNat | _ => 0, ?_, ?_⟩ <;> dsimp only
  · rw [eT, e6, hW0]; exact ⟨by omega, TI.start n1 n4⟩
  · intro i T W hI0
    obtain ⟨i0, hT⟩ := hI0
    clear eT hW0 qW
    refine ⟨fun c1 => ⟨fun c2 => ?_, fun _ => trivial⟩, fun _ => trivial⟩
    have fin : ∀ T' W' : List Int, TI v0 T' W' → ((v6 = v0 * 32 ∧ CV v0 T') ∧ KT T' W') ∧ (([] : List Int) = [] ∧ ([] : List (List Int)) = [] → ∀ j : Int, j = i + 1 → (0 ≤ j ∧ TI v0 T' W') ∧ (50 - j).toNat < (50 - i).toNat) := fun T' W' h => ⟨⟨⟨e6, h.cv⟩, h.kt⟩, fun _ j ej => ⟨⟨by omega, h⟩, by omega⟩⟩
    refine ⟨c1, fun x0 y0 => ⟨by omega, fun kd ekd x1 y1 => ⟨by omega, fun e ee x2 y2 => ⟨by omega, fun s es x3 y3 => ⟨by omega, fun t et x4 y4 => ⟨by omega, fun d ed x5 y5 => ⟨by omega, fun r er x6 y6 => ⟨by omega, fun f ef => ?_⟩⟩⟩⟩⟩⟩⟩⟩
    clear ekd ee es et ed er ef y0 y1 y2 y3 y4 y5 y6
    refine ⟨fun a1 => ⟨fun a2 => ⟨fun a3 => ?_, fun a3 => ?_⟩, fun a2 => ?_⟩, fun a1 => ?_⟩
    · intro z27 e27 z28 e28 z29 e29 z30 e30
      refine ⟨fun h27 => ?_, fun h27 => ?_⟩
      · have a4 : s < 8 := by
          by_cases h : s < 8
          · exact h
          · rw [e27] at h27; simp [h, b2i] at h27
        have hb : plOk v0 e s = true := by simp [plOk]; omega
        have hb4 : 0 ≤ e ∧ e < v0 ∧ 0 ≤ s ∧ s < 8 := ⟨a1, a2, a3, a4⟩
        have e27' : z27 = b2i (plOk v0 e s) := by rw [e27, hb]; simp [a4, b2i]
        have e28' : e = z28 := by rw [e28]; split <;> omega
        have e30' : s = z30 := by rw [e30, e29]; split <;> split <;> omega
        clear e28 e29 e30 h27 e27
        subst e28'
        subst e30'
        intro x31 e31 x32 e32 x33 e33 x34 e34 w ew
        have hw : w = b2i (decide (cG T e s 1 ≠ 0)) := by
          have := (hT.kt.rd (a := e) (b := s) (i := x34) (by omega) (by omega) (by omega) (by omega) (by omega)).1
          rw [← ew] at this
          exact this
        have hI : (w = 0 → cG T e s 1 = 0) ∧ (w ≠ 0 → cG T e s 1 ≠ 0) := by
          refine ⟨fun z => ?_, fun z h => z (by rw [hw]; simp [h, b2i])⟩
          by_cases h : cG T e s 1 = 0
          · exact h
          · rw [z] at hw; simp [h, b2i] at hw
        refine ⟨fun k0 => ⟨fun f0 => ?_, fun f0 => ⟨fun f16 => ?_, fun f16 => ⟨fun z => ?_, fun z => ?_⟩⟩⟩, fun k0 => ⟨fun k1 => ?_, fun k1 => ⟨fun k2 => ?_, fun k2 => ⟨fun k3 => ?_, fun k3 => ?_⟩⟩⟩⟩
        ·
          refine ⟨e6, fun x T' q => ?_⟩
          have q1 : x = rootE v0 T e s f := (List.cons.inj q.1).1
          have q2 : T' = rootL v0 T e s f := (List.cons.inj q.2).1
          have hE : rootE v0 T e s f = 2 := by unfold rootE; rw [if_pos (by simp; exact .inl (.inr f0))]
          have hT' : T' = T := by rw [q2]; unfold rootL; rw [if_neg (by rw [hE]; decide)]
          subst hT'
          exact ⟨fun k => k (q1.trans hE), fun _ => fin _ _ hT⟩
        ·
          refine ⟨e6, fun x T' q => ?_⟩
          have q1 : x = rootE v0 T e s f := (List.cons.inj q.1).1
          have q2 : T' = rootL v0 T e s f := (List.cons.inj q.2).1
          have hE : rootE v0 T e s f = 2 := by unfold rootE; rw [if_pos (by simp; exact .inr f16)]
          have hT' : T' = T := by rw [q2]; unfold rootL; rw [if_neg (by rw [hE]; decide)]
          subst hT'
          exact ⟨fun k => k (q1.trans hE), fun _ => fin _ _ hT⟩
        ·
          refine ⟨e6, fun x T' q => ?_⟩
          have q1 : x = rootE v0 T e s f := (List.cons.inj q.1).1
          have q2 : T' = rootL v0 T e s f := (List.cons.inj q.2).1
          have hE : rootE v0 T e s f = 4 := by unfold rootE; rw [hb, if_neg (by simp; omega), if_pos (hI.2 z)]
          have hT' : T' = T := by rw [q2]; unfold rootL; rw [if_neg (by rw [hE]; decide)]
          subst hT'
          exact ⟨fun k => k (q1.trans hE), fun _ => fin _ _ hT⟩
        ·
          intro W5 w5 x39 e39 W6 w6 x40 e40 W7 w7 x41 e41 W8 w8 x42 e42 W9 w9
          have hW9 : W9 = set5 W x34 1 f 3 (-1) 0 := by
            unfold set5
            rw [w9, w8, w7, w6, w5, e39, e40, e41, e42]
          refine ⟨e6, fun x T' q => ?_⟩
          have q1 : x = rootE v0 T e s f := (List.cons.inj q.1).1
          have q2 : T' = rootL v0 T e s f := (List.cons.inj q.2).1
          have hE : rootE v0 T e s f = 0 := by unfold rootE; rw [hb, if_neg (by simp; omega), if_neg (by rw [hI.1 z]; decide)]
          have hT' : T' = cSet T e s f 3 (-1) 0 := by rw [q2]; unfold rootL; rw [if_pos hE]
          refine ⟨fun k => k (q1.trans hE), fun _ => fin _ _ ?_⟩
          rw [hT', hW9]
          exact hT.put (by omega) (by omega) (by omega) (by omega) (hI.1 z) (by decide) (.inl (by decide)) (hT.kt.set (n := v0) hT.len hT.n4 (by omega) (by omega) (by omega) (by omega) (by omega) (by decide) (by decide))
        ·
          refine ⟨⟨e27', T, hT.len, hT.kt⟩, fun x W' q => ⟨e6, fun y T' p => ?_⟩⟩
          obtain ⟨q1, q2⟩ := q T hT.len hT.kt
          have q1 : x = derE v0 T e s t d r := (List.cons.inj q1).1
          have p1 : y = derE v0 T e s t d r := (List.cons.inj p.1).1
          have p2 : T' = derL v0 T e s t d r := (List.cons.inj p.2).1
          have q2 : KT (derL v0 T e s t d r) W' := q2
          subst p2
          exact ⟨fun k => k (q1.trans p1.symm), fun _ => fin _ _ (hT.der q2)⟩
        ·
          refine ⟨⟨e6, hT.cv⟩, fun a b c dd er G T' q => ?_⟩

          obtain ⟨g1, g2, g3, g4, g5, g6⟩ := q
          have g1 : a * 2 = (G.length : Int) := g1
          have g2 : a ≤ b := g2
          have g3 : c = a * 2 := g3
          have g5 : er = lookE v0 T e s := g5
          have g6 : [G, T'] = if lookE v0 T e s = 0 then [belowL v0 T e s, emptyC T (belowL v0 T e s)] else [[], T] := g6

          refine ⟨fun z => ?_, fun z => ?_⟩
          · have hr := hI.2 z
            have hE : lookE v0 T e s = 0 := by unfold lookE; rw [hb, if_neg (by decide), if_neg hr]
            have hW : belowL v0 T e s = selC (qGone T e s 0) 4 := hT.gone0 e s
            rw [hE, if_pos rfl, hW] at g6
            have hG : G = selC (qGone T e s 0) 4 := (List.cons.inj g6).1
            have hT' : T' = emptyC T (selC (qGone T e s 0) 4) := (List.cons.inj (List.cons.inj g6).2).1
            refine ⟨⟨v0, T, hT.n4, hb4.2.1, hT.cv, hT.kt⟩, fun a' b' c' d' G' W' p => ?_⟩
            obtain ⟨p1, p2, p3, p4, p5⟩ := p
            have p1 : a' * 2 = (G'.length : Int) := p1
            have p2 : a' ≤ b' := p2
            have p3 : c' = a' * 2 := p3
            obtain ⟨p6, p7⟩ := p5 v0 T hT.n4 hb4.2.1 hT.cv hT.kt
            have p6 : G' = selC (qGone T e s 0) 4 := p6
            have p7 : KT (emptyC T G') W' := p7
            rw [p6] at p7
            refine ⟨fun k => k (g5.trans hE), fun _ => ⟨⟨⟨g2, g3, show (G.length : Int) = c by omega⟩, p2, p3, show (G'.length : Int) = c' by omega⟩, fun x qx y ey => ?_⟩⟩
            have hx : x = b2i (decide (G = G')) := (List.cons.inj qx.1).1
            have hy : y = 0 := by rw [ey, hx, hG, p6]; simp [b2i]
            refine ⟨fun k => absurd hy k, fun _ => fin _ _ ?_⟩
            rw [hT']
            exact hT.empty hb4.2.1 p7
          ·
            have hE : lookE v0 T e s = 3 := by unfold lookE; rw [hb, if_neg (by decide), if_pos (hI.1 z)]
            rw [hE, if_neg (by decide)] at g6
            have hG : G = [] := (List.cons.inj g6).1
            have hT' : T' = T := (List.cons.inj (List.cons.inj g6).2).1
            subst hG
            subst hT'
            refine ⟨fun k => k (g5.trans hE), fun _ L7 e7 => ⟨⟨⟨g2, g3, show (([] : List Int).length : Int) = c by omega⟩, Int.le_refl 0, (show (0 : Int) = 0 * 2 from rfl), by rw [e7]; rfl⟩, fun x qx y ey => ?_⟩⟩
            have hx : x = b2i (decide (([] : List Int) = L7)) := (List.cons.inj qx.1).1
            have hy : y = 0 := by rw [ey, hx, e7]; rfl
            exact ⟨fun k => absurd hy k, fun _ => fin _ _ hT⟩
        ·
          refine ⟨⟨e6, hT.cv⟩, fun a b c dd er G T' q => ?_⟩

          obtain ⟨g1, g2, g3, g4, g5, g6⟩ := q
          have g1 : a * 2 = (G.length : Int) := g1
          have g2 : a ≤ b := g2
          have g3 : c = a * 2 := g3
          have g5 : er = lookE v0 T e s := g5
          have g6 : [G, T'] = if lookE v0 T e s = 0 then [dropL v0 T e s, emptyC T (dropL v0 T e s)] else [[], T] := g6

          refine ⟨fun z => ?_, fun z => ?_⟩
          · have hr := hI.2 z
            have hE : lookE v0 T e s = 0 := by unfold lookE; rw [hb, if_neg (by decide), if_neg hr]
            have hW : dropL v0 T e s = selC (qGone T e s 1) 4 := hT.gone1 hb4.2.1 hr
            rw [hE, if_pos rfl, hW] at g6
            have hG : G = selC (qGone T e s 1) 4 := (List.cons.inj g6).1
            have hT' : T' = emptyC T (selC (qGone T e s 1) 4) := (List.cons.inj (List.cons.inj g6).2).1
            refine ⟨⟨v0, T, hT.n4, hb4.2.1, hT.cv, hT.kt⟩, fun a' b' c' d' G' W' p => ?_⟩
            obtain ⟨p1, p2, p3, p4, p5⟩ := p
            have p1 : a' * 2 = (G'.length : Int) := p1
            have p2 : a' ≤ b' := p2
            have p3 : c' = a' * 2 := p3
            obtain ⟨p6, p7⟩ := p5 v0 T hT.n4 hb4.2.1 hT.cv hT.kt
            have p6 : G' = selC (qGone T e s 1) 4 := p6
            have p7 : KT (emptyC T G') W' := p7
            rw [p6] at p7
            refine ⟨fun k => k (g5.trans hE), fun _ => ⟨⟨⟨g2, g3, show (G.length : Int) = c by omega⟩, p2, p3, show (G'.length : Int) = c' by omega⟩, fun x qx y ey => ?_⟩⟩
            have hx : x = b2i (decide (G = G')) := (List.cons.inj qx.1).1
            have hy : y = 0 := by rw [ey, hx, hG, p6]; simp [b2i]
            refine ⟨fun k => absurd hy k, fun _ => fin _ _ ?_⟩
            rw [hT']
            exact hT.empty hb4.2.1 p7
          ·
            have hE : lookE v0 T e s = 3 := by unfold lookE; rw [hb, if_neg (by decide), if_pos (hI.1 z)]
            rw [hE, if_neg (by decide)] at g6
            have hG : G = [] := (List.cons.inj g6).1
            have hT' : T' = T := (List.cons.inj (List.cons.inj g6).2).1
            subst hG
            subst hT'
            refine ⟨fun k => k (g5.trans hE), fun _ L7 e7 => ⟨⟨⟨g2, g3, show (([] : List Int).length : Int) = c by omega⟩, Int.le_refl 0, (show (0 : Int) = 0 * 2 from rfl), by rw [e7]; rfl⟩, fun x qx y ey => ?_⟩⟩
            have hx : x = b2i (decide (([] : List Int) = L7)) := (List.cons.inj qx.1).1
            have hy : y = 0 := by rw [ey, hx, e7]; rfl
            exact ⟨fun k => absurd hy k, fun _ => fin _ _ hT⟩
        ·
          refine ⟨fun z => ?_, fun z => ?_⟩
          · refine ⟨⟨v0, T, hT.n4, hT.cv, hT.kt⟩, fun a' b' c' d' G' p => ⟨⟨e6, hT.cv⟩, fun a b c dd G q => ?_⟩⟩
            obtain ⟨g1, g2, g3, g4, g5⟩ := q
            have g1 : a * 2 = ((belowL v0 T e s).length : Int) := g1
            have g2 : a ≤ b := g2
            have g3 : c = a * 2 := g3
            have hG : G = belowL v0 T e s := (List.cons.inj g5).1
            obtain ⟨p1, p2, p3, p4, p5⟩ := p
            have p1 : a' * 2 = (G'.length : Int) := p1
            have p2 : a' ≤ b' := p2
            have p3 : c' = a' * 2 := p3
            have p6 : G' = selC (qB T e s) 4 := (List.cons.inj (p5 v0 T hT.cv hT.kt)).1
            rw [← hG] at g1
            refine ⟨⟨⟨g2, g3, show (G.length : Int) = c by omega⟩, p2, p3, show (G'.length : Int) = c' by omega⟩, fun x qx y ey => ?_⟩
            have hx : x = b2i (decide (G = G')) := (List.cons.inj qx.1).1
            have hy : y = 0 := by rw [ey, hx, hG, p6, hT.below]; simp [b2i]
            exact ⟨fun k => absurd hy k, fun _ => fin _ _ hT⟩
          ·
            refine ⟨⟨e6, hT.cv⟩, fun a b c dd G q => ?_⟩
            obtain ⟨g1, g2, g3, g4, g5⟩ := q
            have g1 : a * 2 = ((belowL v0 T e s).length : Int) := g1
            have g2 : a ≤ b := g2
            have g3 : c = a * 2 := g3
            have hG : G = belowL v0 T e s := (List.cons.inj g5).1
            rw [hT.belowNone (.inr (hI.1 z))] at g1 hG
            subst hG
            intro L7 e7
            refine ⟨⟨⟨g2, g3, show (([] : List Int).length : Int) = c by omega⟩, Int.le_refl 0, (show (0 : Int) = 0 * 2 from rfl), by rw [e7]; rfl⟩, fun x qx y ey => ?_⟩
            have hx : x = b2i (decide (([] : List Int) = L7)) := (List.cons.inj qx.1).1
            have hy : y = 0 := by rw [ey, hx, e7]; rfl
            exact ⟨fun k => absurd hy k, fun _ => fin _ _ hT⟩
      · have a4 : ¬ s < 8 := fun h => by rw [e27] at h27; simp [h, b2i] at h27
        have hb : plOk v0 e s = false := by simp [plOk]; omega
        have e27' : z27 = b2i (plOk v0 e s) := by rw [h27, hb]; rfl
        clear e28 e29 e30 e27
        refine ⟨?_, ?_⟩
        all_goals
          refine ⟨fun k0 => ?_, fun k0 => ⟨fun k1 => ?_, fun k1 => ⟨fun k2 => ?_, fun k2 => ⟨fun k3 => ?_, fun k3 => ?_⟩⟩⟩⟩
          ·
            refine ⟨e6, fun x T' q => ?_⟩
            have q1 : x = rootE v0 T e s f := (List.cons.inj q.1).1
            have q2 : T' = rootL v0 T e s f := (List.cons.inj q.2).1
            have hE : rootE v0 T e s f = 2 := by unfold rootE; rw [hb]; rfl
            have hT' : T' = T := by rw [q2]; unfold rootL; rw [if_neg (by rw [hE]; decide)]
            subst hT'
            exact ⟨fun k => k (q1.trans hE), fun _ => fin _ _ hT⟩
          ·
            refine ⟨⟨e27', T, hT.len, hT.kt⟩, fun x W' q => ⟨e6, fun y T' p => ?_⟩⟩
            obtain ⟨q1, q2⟩ := q T hT.len hT.kt
            have q1 : x = derE v0 T e s t d r := (List.cons.inj q1).1
            have p1 : y = derE v0 T e s t d r := (List.cons.inj p.1).1
            have p2 : T' = derL v0 T e s t d r := (List.cons.inj p.2).1
            have q2 : KT (derL v0 T e s t d r) W' := q2
            subst p2
            exact ⟨fun k => k (q1.trans p1.symm), fun _ => fin _ _ (hT.der q2)⟩
          ·
            refine ⟨⟨e6, hT.cv⟩, fun a b c dd er G T' q => ?_⟩

            obtain ⟨g1, g2, g3, g4, g5, g6⟩ := q
            have g1 : a * 2 = (G.length : Int) := g1
            have g2 : a ≤ b := g2
            have g3 : c = a * 2 := g3
            have g5 : er = lookE v0 T e s := g5
            have g6 : [G, T'] = if lookE v0 T e s = 0 then [belowL v0 T e s, emptyC T (belowL v0 T e s)] else [[], T] := g6

            have hE : lookE v0 T e s = 2 := by unfold lookE; rw [hb]; rfl
            rw [hE, if_neg (by decide)] at g6
            have hG : G = [] := (List.cons.inj g6).1
            have hT' : T' = T := (List.cons.inj (List.cons.inj g6).2).1
            subst hG
            subst hT'
            refine ⟨fun k => k (g5.trans hE), fun _ L7 e7 => ⟨⟨⟨g2, g3, show (([] : List Int).length : Int) = c by omega⟩, Int.le_refl 0, (show (0 : Int) = 0 * 2 from rfl), by rw [e7]; rfl⟩, fun x qx y ey => ?_⟩⟩
            have hx : x = b2i (decide (([] : List Int) = L7)) := (List.cons.inj qx.1).1
            have hy : y = 0 := by rw [ey, hx, e7]; rfl
            exact ⟨fun k => absurd hy k, fun _ => fin _ _ hT⟩
          ·
            refine ⟨⟨e6, hT.cv⟩, fun a b c dd er G T' q => ?_⟩

            obtain ⟨g1, g2, g3, g4, g5, g6⟩ := q
            have g1 : a * 2 = (G.length : Int) := g1
            have g2 : a ≤ b := g2
            have g3 : c = a * 2 := g3
            have g5 : er = lookE v0 T e s := g5
            have g6 : [G, T'] = if lookE v0 T e s = 0 then [dropL v0 T e s, emptyC T (dropL v0 T e s)] else [[], T] := g6

            have hE : lookE v0 T e s = 2 := by unfold lookE; rw [hb]; rfl
            rw [hE, if_neg (by decide)] at g6
            have hG : G = [] := (List.cons.inj g6).1
            have hT' : T' = T := (List.cons.inj (List.cons.inj g6).2).1
            subst hG
            subst hT'
            refine ⟨fun k => k (g5.trans hE), fun _ L7 e7 => ⟨⟨⟨g2, g3, show (([] : List Int).length : Int) = c by omega⟩, Int.le_refl 0, (show (0 : Int) = 0 * 2 from rfl), by rw [e7]; rfl⟩, fun x qx y ey => ?_⟩⟩
            have hx : x = b2i (decide (([] : List Int) = L7)) := (List.cons.inj qx.1).1
            have hy : y = 0 := by rw [ey, hx, e7]; rfl
            exact ⟨fun k => absurd hy k, fun _ => fin _ _ hT⟩
          ·
            refine ⟨⟨e6, hT.cv⟩, fun a b c dd G q => ?_⟩
            obtain ⟨g1, g2, g3, g4, g5⟩ := q
            have g1 : a * 2 = ((belowL v0 T e s).length : Int) := g1
            have g2 : a ≤ b := g2
            have g3 : c = a * 2 := g3
            have hG : G = belowL v0 T e s := (List.cons.inj g5).1
            rw [hT.belowNone (.inl hb)] at g1 hG
            subst hG
            intro L7 e7
            refine ⟨⟨⟨g2, g3, show (([] : List Int).length : Int) = c by omega⟩, Int.le_refl 0, (show (0 : Int) = 0 * 2 from rfl), by rw [e7]; rfl⟩, fun x qx y ey => ?_⟩
            have hx : x = b2i (decide (([] : List Int) = L7)) := (List.cons.inj qx.1).1
            have hy : y = 0 := by rw [ey, hx, e7]; rfl
            exact ⟨fun k => absurd hy k, fun _ => fin _ _ hT⟩
    · intro z27 e27
      have hb : plOk v0 e s = false := by simp [plOk]; omega
      have e27' : (0 : Int) = b2i (plOk v0 e s) := by rw [hb]; rfl
      clear e27
      refine ⟨?_, ?_⟩
      all_goals
        refine ⟨fun k0 => ?_, fun k0 => ⟨fun k1 => ?_, fun k1 => ⟨fun k2 => ?_, fun k2 => ⟨fun k3 => ?_, fun k3 => ?_⟩⟩⟩⟩
        ·
          refine ⟨e6, fun x T' q => ?_⟩
          have q1 : x = rootE v0 T e s f := (List.cons.inj q.1).1
          have q2 : T' = rootL v0 T e s f := (List.cons.inj q.2).1
          have hE : rootE v0 T e s f = 2 := by unfold rootE; rw [hb]; rfl
          have hT' : T' = T := by rw [q2]; unfold rootL; rw [if_neg (by rw [hE]; decide)]
          subst hT'
          exact ⟨fun k => k (q1.trans hE), fun _ => fin _ _ hT⟩
        ·
          refine ⟨⟨e27', T, hT.len, hT.kt⟩, fun x W' q => ⟨e6, fun y T' p => ?_⟩⟩
          obtain ⟨q1, q2⟩ := q T hT.len hT.kt
          have q1 : x = derE v0 T e s t d r := (List.cons.inj q1).1
          have p1 : y = derE v0 T e s t d r := (List.cons.inj p.1).1
          have p2 : T' = derL v0 T e s t d r := (List.cons.inj p.2).1
          have q2 : KT (derL v0 T e s t d r) W' := q2
          subst p2
          exact ⟨fun k => k (q1.trans p1.symm), fun _ => fin _ _ (hT.der q2)⟩
        ·
          refine ⟨⟨e6, hT.cv⟩, fun a b c dd er G T' q => ?_⟩

          obtain ⟨g1, g2, g3, g4, g5, g6⟩ := q
          have g1 : a * 2 = (G.length : Int) := g1
          have g2 : a ≤ b := g2
          have g3 : c = a * 2 := g3
          have g5 : er = lookE v0 T e s := g5
          have g6 : [G, T'] = if lookE v0 T e s = 0 then [belowL v0 T e s, emptyC T (belowL v0 T e s)] else [[], T] := g6

          have hE : lookE v0 T e s = 2 := by unfold lookE; rw [hb]; rfl
          rw [hE, if_neg (by decide)] at g6
          have hG : G = [] := (List.cons.inj g6).1
          have hT' : T' = T := (List.cons.inj (List.cons.inj g6).2).1
          subst hG
          subst hT'
          refine ⟨fun k => k (g5.trans hE), fun _ L7 e7 => ⟨⟨⟨g2, g3, show (([] : List Int).length : Int) = c by omega⟩, Int.le_refl 0, (show (0 : Int) = 0 * 2 from rfl), by rw [e7]; rfl⟩, fun x qx y ey => ?_⟩⟩
          have hx : x = b2i (decide (([] : List Int) = L7)) := (List.cons.inj qx.1).1
          have hy : y = 0 := by rw [ey, hx, e7]; rfl
          exact ⟨fun k => absurd hy k, fun _ => fin _ _ hT⟩
        ·
          refine ⟨⟨e6, hT.cv⟩, fun a b c dd er G T' q => ?_⟩

          obtain ⟨g1, g2, g3, g4, g5, g6⟩ := q
          have g1 : a * 2 = (G.length : Int) := g1
          have g2 : a ≤ b := g2
          have g3 : c = a * 2 := g3
          have g5 : er = lookE v0 T e s := g5
          have g6 : [G, T'] = if lookE v0 T e s = 0 then [dropL v0 T e s, emptyC T (dropL v0 T e s)] else [[], T] := g6

          have hE : lookE v0 T e s = 2 := by unfold lookE; rw [hb]; rfl
          rw [hE, if_neg (by decide)] at g6
          have hG : G = [] := (List.cons.inj g6).1
          have hT' : T' = T := (List.cons.inj (List.cons.inj g6).2).1
          subst hG
          subst hT'
          refine ⟨fun k => k (g5.trans hE), fun _ L7 e7 => ⟨⟨⟨g2, g3, show (([] : List Int).length : Int) = c by omega⟩, Int.le_refl 0, (show (0 : Int) = 0 * 2 from rfl), by rw [e7]; rfl⟩, fun x qx y ey => ?_⟩⟩
          have hx : x = b2i (decide (([] : List Int) = L7)) := (List.cons.inj qx.1).1
          have hy : y = 0 := by rw [ey, hx, e7]; rfl
          exact ⟨fun k => absurd hy k, fun _ => fin _ _ hT⟩
        ·
          refine ⟨⟨e6, hT.cv⟩, fun a b c dd G q => ?_⟩
          obtain ⟨g1, g2, g3, g4, g5⟩ := q
          have g1 : a * 2 = ((belowL v0 T e s).length : Int) := g1
          have g2 : a ≤ b := g2
          have g3 : c = a * 2 := g3
          have hG : G = belowL v0 T e s := (List.cons.inj g5).1
          rw [hT.belowNone (.inl hb)] at g1 hG
          subst hG
          intro L7 e7
          refine ⟨⟨⟨g2, g3, show (([] : List Int).length : Int) = c by omega⟩, Int.le_refl 0, (show (0 : Int) = 0 * 2 from rfl), by rw [e7]; rfl⟩, fun x qx y ey => ?_⟩
          have hx : x = b2i (decide (([] : List Int) = L7)) := (List.cons.inj qx.1).1
          have hy : y = 0 := by rw [ey, hx, e7]; rfl
          exact ⟨fun k => absurd hy k, fun _ => fin _ _ hT⟩
    · intro z26 e26 z27 e27 z28 e28
      have hb : plOk v0 e s = false := by simp [plOk]; omega
      have e27' : (0 : Int) = b2i (plOk v0 e s) := by rw [hb]; rfl
      clear e26 e27 e28
      refine ⟨?_, ?_⟩
      all_goals
        refine ⟨fun k0 => ?_, fun k0 => ⟨fun k1 => ?_, fun k1 => ⟨fun k2 => ?_, fun k2 => ⟨fun k3 => ?_, fun k3 => ?_⟩⟩⟩⟩
        ·
          refine ⟨e6, fun x T' q => ?_⟩
          have q1 : x = rootE v0 T e s f := (List.cons.inj q.1).1
          have q2 : T' = rootL v0 T e s f := (List.cons.inj q.2).1
          have hE : rootE v0 T e s f = 2 := by unfold rootE; rw [hb]; rfl
          have hT' : T' = T := by rw [q2]; unfold rootL; rw [if_neg (by rw [hE]; decide)]
          subst hT'
          exact ⟨fun k => k (q1.trans hE), fun _ => fin _ _ hT⟩
        ·
          refine ⟨⟨e27', T, hT.len, hT.kt⟩, fun x W' q => ⟨e6, fun y T' p => ?_⟩⟩
          obtain ⟨q1, q2⟩ := q T hT.len hT.kt
          have q1 : x = derE v0 T e s t d r := (List.cons.inj q1).1
          have p1 : y = derE v0 T e s t d r := (List.cons.inj p.1).1
          have p2 : T' = derL v0 T e s t d r := (List.cons.inj p.2).1
          have q2 : KT (derL v0 T e s t d r) W' := q2
          subst p2
          exact ⟨fun k => k (q1.trans p1.symm), fun _ => fin _ _ (hT.der q2)⟩
        ·
          refine ⟨⟨e6, hT.cv⟩, fun a b c dd er G T' q => ?_⟩

          obtain ⟨g1, g2, g3, g4, g5, g6⟩ := q
          have g1 : a * 2 = (G.length : Int) := g1
          have g2 : a ≤ b := g2
          have g3 : c = a * 2 := g3
          have g5 : er = lookE v0 T e s := g5
          have g6 : [G, T'] = if lookE v0 T e s = 0 then [belowL v0 T e s, emptyC T (belowL v0 T e s)] else [[], T] := g6

          have hE : lookE v0 T e s = 2 := by unfold lookE; rw [hb]; rfl
          rw [hE, if_neg (by decide)] at g6
          have hG : G = [] := (List.cons.inj g6).1
          have hT' : T' = T := (List.cons.inj (List.cons.inj g6).2).1
          subst hG
          subst hT'
          refine ⟨fun k => k (g5.trans hE), fun _ L7 e7 => ⟨⟨⟨g2, g3, show (([] : List Int).length : Int) = c by omega⟩, Int.le_refl 0, (show (0 : Int) = 0 * 2 from rfl), by rw [e7]; rfl⟩, fun x qx y ey => ?_⟩⟩
          have hx : x = b2i (decide (([] : List Int) = L7)) := (List.cons.inj qx.1).1
          have hy : y = 0 := by rw [ey, hx, e7]; rfl
          exact ⟨fun k => absurd hy k, fun _ => fin _ _ hT⟩
        ·
          refine ⟨⟨e6, hT.cv⟩, fun a b c dd er G T' q => ?_⟩

          obtain ⟨g1, g2, g3, g4, g5, g6⟩ := q
          have g1 : a * 2 = (G.length : Int) := g1
          have g2 : a ≤ b := g2
          have g3 : c = a * 2 := g3
          have g5 : er = lookE v0 T e s := g5
          have g6 : [G, T'] = if lookE v0 T e s = 0 then [dropL v0 T e s, emptyC T (dropL v0 T e s)] else [[], T] := g6

          have hE : lookE v0 T e s = 2 := by unfold lookE; rw [hb]; rfl
          rw [hE, if_neg (by decide)] at g6
          have hG : G = [] := (List.cons.inj g6).1
          have hT' : T' = T := (List.cons.inj (List.cons.inj g6).2).1
          subst hG
          subst hT'
          refine ⟨fun k => k (g5.trans hE), fun _ L7 e7 => ⟨⟨⟨g2, g3, show (([] : List Int).length : Int) = c by omega⟩, Int.le_refl 0, (show (0 : Int) = 0 * 2 from rfl), by rw [e7]; rfl⟩, fun x qx y ey => ?_⟩⟩
          have hx : x = b2i (decide (([] : List Int) = L7)) := (List.cons.inj qx.1).1
          have hy : y = 0 := by rw [ey, hx, e7]; rfl
          exact ⟨fun k => absurd hy k, fun _ => fin _ _ hT⟩
        ·
          refine ⟨⟨e6, hT.cv⟩, fun a b c dd G q => ?_⟩
          obtain ⟨g1, g2, g3, g4, g5⟩ := q
          have g1 : a * 2 = ((belowL v0 T e s).length : Int) := g1
          have g2 : a ≤ b := g2
          have g3 : c = a * 2 := g3
          have hG : G = belowL v0 T e s := (List.cons.inj g5).1
          rw [hT.belowNone (.inl hb)] at g1 hG
          subst hG
          intro L7 e7
          refine ⟨⟨⟨g2, g3, show (([] : List Int).length : Int) = c by omega⟩, Int.le_refl 0, (show (0 : Int) = 0 * 2 from rfl), by rw [e7]; rfl⟩, fun x qx y ey => ?_⟩
          have hx : x = b2i (decide (([] : List Int) = L7)) := (List.cons.inj qx.1).1
          have hy : y = 0 := by rw [ey, hx, e7]; rfl
          exact ⟨fun k => absurd hy k, fun _ => fin _ _ hT⟩
    · intro z25 e25 z26 e26
      have hb : plOk v0 e s = false := by simp [plOk]; omega
      have e27' : (0 : Int) = b2i (plOk v0 e s) := by rw [hb]; rfl
      clear e25 e26
      refine ⟨?_, ?_⟩
      all_goals
        refine ⟨fun k0 => ?_, fun k0 => ⟨fun k1 => ?_, fun k1 => ⟨fun k2 => ?_, fun k2 => ⟨fun k3 => ?_, fun k3 => ?_⟩⟩⟩⟩
        ·
          refine ⟨e6, fun x T' q => ?_⟩
          have q1 : x = rootE v0 T e s f := (List.cons.inj q.1).1
          have q2 : T' = rootL v0 T e s f := (List.cons.inj q.2).1
          have hE : rootE v0 T e s f = 2 := by unfold rootE; rw [hb]; rfl
          have hT' : T' = T := by rw [q2]; unfold rootL; rw [if_neg (by rw [hE]; decide)]
          subst hT'
          exact ⟨fun k => k (q1.trans hE), fun _ => fin _ _ hT⟩
        ·
          refine ⟨⟨e27', T, hT.len, hT.kt⟩, fun x W' q => ⟨e6, fun y T' p => ?_⟩⟩
          obtain ⟨q1, q2⟩ := q T hT.len hT.kt
          have q1 : x = derE v0 T e s t d r := (List.cons.inj q1).1
          have p1 : y = derE v0 T e s t d r := (List.cons.inj p.1).1
          have p2 : T' = derL v0 T e s t d r := (List.cons.inj p.2).1
          have q2 : KT (derL v0 T e s t d r) W' := q2
          subst p2
          exact ⟨fun k => k (q1.trans p1.symm), fun _ => fin _ _ (hT.der q2)⟩
        ·
          refine ⟨⟨e6, hT.cv⟩, fun a b c dd er G T' q => ?_⟩

          obtain ⟨g1, g2, g3, g4, g5, g6⟩ := q
          have g1 : a * 2 = (G.length : Int) := g1
          have g2 : a ≤ b := g2
          have g3 : c = a * 2 := g3
          have g5 : er = lookE v0 T e s := g5
          have g6 : [G, T'] = if lookE v0 T e s = 0 then [belowL v0 T e s, emptyC T (belowL v0 T e s)] else [[], T] := g6

          have hE : lookE v0 T e s = 2 := by unfold lookE; rw [hb]; rfl
          rw [hE, if_neg (by decide)] at g6
          have hG : G = [] := (List.cons.inj g6).1
          have hT' : T' = T := (List.cons.inj (List.cons.inj g6).2).1
          subst hG
          subst hT'
          refine ⟨fun k => k (g5.trans hE), fun _ L7 e7 => ⟨⟨⟨g2, g3, show (([] : List Int).length : Int) = c by omega⟩, Int.le_refl 0, (show (0 : Int) = 0 * 2 from rfl), by rw [e7]; rfl⟩, fun x qx y ey => ?_⟩⟩
          have hx : x = b2i (decide (([] : List Int) = L7)) := (List.cons.inj qx.1).1
          have hy : y = 0 := by rw [ey, hx, e7]; rfl
          exact ⟨fun k => absurd hy k, fun _ => fin _ _ hT⟩
        ·
          refine ⟨⟨e6, hT.cv⟩, fun a b c dd er G T' q => ?_⟩

          obtain ⟨g1, g2, g3, g4, g5, g6⟩ := q
          have g1 : a * 2 = (G.length : Int) := g1
          have g2 : a ≤ b := g2
          have g3 : c = a * 2 := g3
          have g5 : er = lookE v0 T e s := g5
          have g6 : [G, T'] = if lookE v0 T e s = 0 then [dropL v0 T e s, emptyC T (dropL v0 T e s)] else [[], T] := g6

          have hE : lookE v0 T e s = 2 := by unfold lookE; rw [hb]; rfl
          rw [hE, if_neg (by decide)] at g6
          have hG : G = [] := (List.cons.inj g6).1
          have hT' : T' = T := (List.cons.inj (List.cons.inj g6).2).1
          subst hG
          subst hT'
          refine ⟨fun k => k (g5.trans hE), fun _ L7 e7 => ⟨⟨⟨g2, g3, show (([] : List Int).length : Int) = c by omega⟩, Int.le_refl 0, (show (0 : Int) = 0 * 2 from rfl), by rw [e7]; rfl⟩, fun x qx y ey => ?_⟩⟩
          have hx : x = b2i (decide (([] : List Int) = L7)) := (List.cons.inj qx.1).1
          have hy : y = 0 := by rw [ey, hx, e7]; rfl
          exact ⟨fun k => absurd hy k, fun _ => fin _ _ hT⟩
        ·
          refine ⟨⟨e6, hT.cv⟩, fun a b c dd G q => ?_⟩
          obtain ⟨g1, g2, g3, g4, g5⟩ := q
          have g1 : a * 2 = ((belowL v0 T e s).length : Int) := g1
          have g2 : a ≤ b := g2
          have g3 : c = a * 2 := g3
          have hG : G = belowL v0 T e s := (List.cons.inj g5).1
          rw [hT.belowNone (.inl hb)] at g1 hG
          subst hG
          intro L7 e7
          refine ⟨⟨⟨g2, g3, show (([] : List Int).length : Int) = c by omega⟩, Int.le_refl 0, (show (0 : Int) = 0 * 2 from rfl), by rw [e7]; rfl⟩, fun x qx y ey => ?_⟩
          have hx : x = b2i (decide (([] : List Int) = L7)) := (List.cons.inj qx.1).1
          have hy : y = 0 := by rw [ey, hx, e7]; rfl
          exact ⟨fun k => absurd hy k, fun _ => fin _ _ hT⟩)
theorem capsAll_holds : ((lawSpec L2.f_messuagelaw11_CapsAll [.one (.i .i64), .slc L2.ks7]).withPre fun _ => True).Holds Tryz.prog L2.ro := holds_withPre _ capsAll_holds0

noncomputable def CapsAll_n_t : Tree := .call 5 (Go.Sx.L2.yes Go.Sx.L2.f_messuagelaw11_begun).rel [] [] 0 0 (.letI (.cmp .lss (.v 0) (.c 1)) (.ite (.v 1) (.done [] []) (.letI (.cmp .lss (.c 4) (.v 0)) (.ite (.v 2) (.done [] []) (.letI (.mul (.v 0) (.c 32)) (.letL (.rep (.v 3) (.c 0)) (.call 11 (Go.Sx.L2.rKNewV).rel [.v 0] [] 0 1 (.loop [.c (0)] [0, 1] (.exit (.done [] []))))))))))
theorem CapsAll_n_tree : (lawSpec L2.f_messuagelaw11_CapsAll [.one (.i .i64), .nil]).exe Tryz.prog (withS (L2.cfgB Tryz.prog) [L2.rKNewV, L2.cRoot, L2.cDer, L2.cRevoke, L2.cDrop, L2.cBelow, L2.rBelow, L2.lGone, L2.lPlaces, L2.lDer, L2.lSame]) [{ f := L2.f_messuagelaw11_CapsAll, reg := 9, ints := [(8, 0, 50)], lists := [(6, [0], some (-9223372036854775808, 9223372036854775807)), (7, [], some (-9223372036854775808, 18446744073709551615))] }] 20 200 = CapsAll_n_t := by kernel_rfl
theorem CapsAll_n_vc (Q : List Int → List (List Int) → Prop) (v0 : Int) : CapsAll_n_t.dn ⟨Q, []⟩ 1 [v0] 0 [] = ((Go.Sx.L2.yes Go.Sx.L2.f_messuagelaw11_begun).rel.pre [] [] ∧
((Go.Sx.L2.yes Go.Sx.L2.f_messuagelaw11_begun).rel.post [] [] [] [] → ((v0 < (1 : Int)) → Q [] []) ∧
(((1 : Int) ≤ v0) → (((4 : Int) < v0) → Q [] []) ∧
((v0 ≤ (4 : Int)) → ∀ v3 : Int, v3 = v0 * (32 : Int) → ∀ L0 : List Int, L0 = List.replicate (v3).toNat (0 : Int) → (Go.Sx.L2.rKNewV).rel.pre [v0] [] ∧
(∀ L1 : List Int, (Go.Sx.L2.rKNewV).rel.post [v0] [] [] [L1] → ∃ (I0 : List Int → List (List Int) → Prop) (μ0 : List Int → List (List Int) → Nat), I0 [(0 : Int)] [L0, L1] ∧
(∀ v4 : Int, ∀ L2 : List Int, ∀ L3 : List Int, I0 [v4] [L2, L3] →
 Q [] [])))))) := by kernel_rfl
set_option maxHeartbeats 4000000 in
theorem capsAll_holds_n0 : (lawSpec L2.f_messuagelaw11_CapsAll [.one (.i .i64), .nil]).Holds Tryz.prog L2.ro := FSpec.holdsV (cfg := withS (L2.cfgB Tryz.prog) [L2.rKNewV, L2.cRoot, L2.cDer, L2.cRevoke, L2.cDrop, L2.cBelow, L2.rBelow, L2.lGone, L2.lPlaces, L2.lDer, L2.lSame]) [{ f := L2.f_messuagelaw11_CapsAll, reg := 9, ints := [(8, 0, 50)], lists := [(6, [0], some (-9223372036854775808, 9223372036854775807)), (7, [], some (-9223372036854775808, 18446744073709551615))] }] 20 200 (withS_ok cfgB_ok ⟨rKNewV_holds, cRoot_holds, cDer_holds, cRevoke_holds, cDrop_holds, cBelow_holds, rBelow_holds, lGone_holds, lPlaces_holds, lDer_holds, lSame_holds, trivial⟩) mixed (t := CapsAll_n_t) CapsAll_n_tree (by
  show ∀ (v0 : Int) , _
  intro v0  hp hr hl
  replace hr : ((-9223372036854775808 : Int) ≤ v0 ∧ v0 ≤ (9223372036854775807 : Int)) ∧ True := hr
  replace hp : True := hp
  show CapsAll_n_t.dn ⟨_, []⟩ 1 [v0] 0 []
  rw [CapsAll_n_vc]
  show ((L2.yes L2.f_messuagelaw11_begun).rel.pre [] [] ∧ _)
  refine ⟨trivial, fun _ => ?_⟩
  refine ⟨fun _ => trivial, fun n1 => ⟨fun _ => trivial, fun n4 => ?_⟩⟩
  intro v6 e6 T0 eT
  refine ⟨trivial, fun W0 qW => ⟨fun _ _ => True, fun _ _ => 0, trivial, fun _ _ _ _ => trivial⟩⟩)
theorem capsAll_holds_n : ((lawSpec L2.f_messuagelaw11_CapsAll [.one (.i .i64), .nil]).withPre fun _ => True).Holds Tryz.prog L2.ro := holds_withPre _ capsAll_holds_n0

theorem capsAll_calls {H : Type} {enc : TypeId × Value → H} {W : World} {base : Nat} {args : Array Value} {ds : List (DataW H)} {p : List MemPlace} (hval : ∀ (j : Nat) t v, Tryz.f4.params[j]? = some t → args[j]? = some v → Value.okWide Tryz.prog W .any base t v)
    (hA : DataW.TrodAll enc Tryz.prog W 0 (fun _ => true) true Tryz.f4.params.toList args.toList ds p) (hL : laidMetH Tryz.prog laid1 W) : Calls Tryz.prog 4 args W fun e W' => e = .returned (.bool true) ∧ Go.Sx.Frame ⟨W, [], L2.ro⟩ W' := by
  rw [Tryz.params4] at hA hval
  obtain ⟨v0, v1, d0, d1, p0, p1, rfl, rfl, rfl, h0, h1⟩ := trodAll_two hA
  obtain ⟨n0, q0⟩ := par_int (base := 0) und3 (hval 0 3 v0 rfl rfl) h0
  rcases par_flats (base := 0) (f := 9) und41 flat49 cells49 (by decide) (hval 1 41 v1 rfl rfl) h1 with q1 | ⟨e1, q1⟩
  · exact law_calls (capsAll_holds_n) Tryz.func4 (show Tryz.f4.body = some _ from rfl) (by kernel_rfl) (.cons q0 (.cons q1 .none)) trivial (ro_of_laid hL)
  · exact law_calls (capsAll_holds) Tryz.func4 (show Tryz.f4.body = some _ from rfl) (by kernel_rfl) (.cons q0 (.cons q1 .none)) trivial (ro_of_laid hL)
set_option maxHeartbeats 1000000 in
theorem capsAll_lifted (os : Os) (started : os.Started) (H : Type) (enc : TypeId × Value → H) :
    ReturnsInHanded {} Tryz.checked os 4 .any (fun w args => (Rows.capsAllSpec.pre enc Tryz.prog Tryz.f4 [] false w args ∧ laidMetH Tryz.prog laid1 w) ∧ sizedMet enc Tryz.prog Tryz.f4 (OpenSpec.ofChange Rows.capsAllSpec) false w args)
      (Rows.capsAllSpec.post enc Tryz.prog Tryz.f4 false true false false) := by
  refine returnsInHanded_of_change_and (C := Tryz.checked) (X := fun w _ => laidMetH Tryz.prog laid1 w) (fun _ _ _ hh h => h.of_heap hh) Tryz.own started (by kernel_rfl) Tryz.func4
    (ChangeSpec.witness_at (enc := enc) (C := Tryz.checked) (os := os) (X := fun w _ => laidMetH Tryz.prog laid1 w) false (laidWorld os) #[.int .i64 0, .slice none 0 0] 8 rfl (by kernel_rfl) (by kernel_rfl) (by kernel_rfl) (by kernel_rfl) (by kernel_rfl) (laidWorld_met os _)) ?_
  intro W base args ds gs before hval0 hW _ _ hL _
  have hval : ∀ (j : Nat) t v, Tryz.f4.params[j]? = some t → args[j]? = some v → Value.okWide Tryz.prog W .any base t v := hval0
  have hW' := hW
  obtain ⟨p, q, hA0, hV0, rfl, hfz, hnd⟩ := hW
  have hcall := capsAll_calls (enc := enc) hval hA0 hL
  refine Calls.mono hcall ?_
  rintro e W' ⟨rfl, hfr⟩
  exact ⟨_, rfl, post_kept Tryz.laidOut (by kernel_rfl) rfl rfl und4 hW' hfr (by
    have hg : gs = [] := by cases gs with | nil => rfl | cons g r => exact absurd hV0 (by intro h; cases h)
    subst hg
    have hA1 : DataW.TrodAll enc Tryz.prog W 0 (fun _ => true) true Tryz.f4.params.toList args.toList ds p := hA0
    rw [Tryz.params4] at hA1
    obtain ⟨v0, v1, d0, d1, p0, p1, ea, rfl, ec, h0, h1⟩ := trodAll_two hA1
    rfl)⟩

theorem capsAll_row : Rows.CapsAllSaid :=
  OpenClaim.holds_of_wide 4 Tryz.f4 rfl rfl rfl rfl rfl rfl rfl ⟨rfl, rfl, rfl, rfl, rfl⟩ rfl rfl rfl rfl rfl (by kernel_rfl) Tryz.func4 (restFacts.2 _ _ _ _ _ Tryz.mayEnter Tryz.liftsFinal Tryz.make (by kernel_rfl))
    (of_decide_eq_true (by kernel_rfl)) (by unfold Func.isWrapper; rw [if_neg (of_decide_eq_false (by kernel_rfl))]; exact ⟨rfl, rfl⟩)
    (fun os started H enc _ => capsAll_lifted os started H enc)
theorem capsAll_card : Rows.CapsAllCardSaid :=
  Claim7.holds_tied_plain_at .later [] [.handle] true (true, "c37214cd26cf5f1276fdeee23c58ff70ef53484e76f0d89ddbe54588837d2cdb") true
    capsAll_row (fun _ h => by cases h) (by kernel_rfl) (fun _ h => by cases h) capsAll_row_tie rfl ⟨rfl, rfl⟩ Tryz.mainIs rfl
    (fun f fn hf hfn => by
      obtain rfl : f = 4 := Option.some.inj ((show Tryz.prog.funcNamed "messuage/messuagelaw11.CapsAll" = some 4 by kernel_rfl).symm.trans hf) |>.symm
      obtain rfl : fn = Tryz.f4 := (Option.some.inj (Tryz.func4.symm.trans hfn)).symm
      exact ⟨by kernel_rfl, fun j t ht => by
        rw [Tryz.params4] at ht
        rcases j with _ | _ | j
        · obtain rfl : 3 = t := by simpa using ht
          exact (show Tryz.prog.wantsStandIn 3 = false by kernel_rfl)
        · obtain rfl : 41 = t := by simpa using ht
          exact (show Tryz.prog.wantsStandIn 41 = false by kernel_rfl)
        · simp at ht⟩)
    (by kernel_rfl)
#print axioms capsAll_card
end Go.Proofs.YtpmgfdakljjlaaaGreatDoor
