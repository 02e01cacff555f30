/- The statement messuagelaw11.PlainOrder of the seat: for every input the law returns true; the condition: errors.errorType is as the program lays it. -/
import Derived.Test.YtbeeilndeglnhaaGreatDoorL2B
import Derived.Test.YtbeeilndeglnhaaGreatDoorSxM7
import Derived.Test.YtbeeilndeglnhaaGreatDoorL2Zn
import Derived.Test.YtbeeilndeglnhaaGreatDoorL2Zd0
import Derived.Test.YtbeeilndeglnhaaGreatDoorL2Zo0
import Derived.Test.YtbeeilndeglnhaaGreatDoorL2Zo1
import Derived.Test.YtbeeilndeglnhaaGreatDoorL2Zo2
import Derived.Test.YtbeeilndeglnhaaGreatDoorL2Zx0
import Derived.Test.YtbeeilndeglnhaaGreatDoorL2Zx1
import Derived.Test.YtbeeilndeglnhaaGreatDoorL2Zx2
import Derived.Test.YtbeeilndeglnhaaGreatDoorL2Zx3
set_option linter.unusedVariables false
set_option linter.unusedSimpArgs false
open Go Go.Sx
namespace Go.Proofs.YtbeeilndeglnhaaGreatDoor
open Go.ChangeShapes Go.WideShapes Go.RowKit
set_option maxRecDepth 100000

noncomputable def PlainOrder_t : Tree := .call 11 (Go.Sx.L2.yes Go.Sx.L2.f_messuagelaw11_begun).rel [] [] 0 0 (.call 38 (Go.Sx.L2.pNew1).rel [] [] 2 0 (.call 14 (Go.Sx.L2.zA0).rel [.v 1, .v 2] [] 0 0 (.call 14 (Go.Sx.L2.zA0).rel [.v 1, .v 2] [] 0 0 (.call 14 (Go.Sx.L2.zA0).rel [.v 1, .v 2] [] 0 0 (.letI (.rem (.v 0) (.c 14)) (.letI (.add (.v 3) (.c 14)) (.letI (.rem (.v 4) (.c 14)) (.letI (.cmp .eql (.v 5) (.c 0)) (.ite (.v 6) (.call 14 (Go.Sx.L2.zA0).rel [.v 1, .v 2] [] 0 0 (.call 14 (Go.Sx.L2.zA0).rel [.v 1, .v 2, .c (1), .c (0), .c (0), .c (0), .c (0)] [] 0 0 (.call 17 (Go.Sx.L2.zX0).rel [.v 1, .v 2] [] 0 0 (.done [] [])))) (.letI (.cmp .eql (.v 5) (.c 1)) (.ite (.v 7) (.call 14 (Go.Sx.L2.zA0).rel [.v 1, .v 2] [] 0 0 (.call 14 (Go.Sx.L2.zA0).rel [.v 1, .v 2, .c (1), .c (2), .c (0), .c (0), .c (0)] [] 0 0 (.call 17 (Go.Sx.L2.zX0).rel [.v 1, .v 2] [] 0 0 (.done [] [])))) (.letI (.cmp .eql (.v 5) (.c 2)) (.ite (.v 8) (.call 14 (Go.Sx.L2.zA0).rel [.v 1, .v 2] [] 0 0 (.call 14 (Go.Sx.L2.zA0).rel [.v 1, .v 2, .c (2), .c (5), .c (0), .c (3), .c (0)] [] 0 0 (.call 17 (Go.Sx.L2.zX0).rel [.v 1, .v 2] [] 0 0 (.done [] [])))) (.letI (.cmp .eql (.v 5) (.c 3)) (.ite (.v 9) (.call 14 (Go.Sx.L2.zA0).rel [.v 1, .v 2] [] 0 0 (.call 14 (Go.Sx.L2.zA0).rel [.v 1, .v 2, .c (2), .c (1), .c (0), .c (3), .c (0)] [] 0 0 (.call 17 (Go.Sx.L2.zX0).rel [.v 1, .v 2] [] 0 0 (.done [] [])))) (.letI (.cmp .eql (.v 5) (.c 4)) (.ite (.v 10) (.call 14 (Go.Sx.L2.zA0).rel [.v 1, .v 2] [] 0 0 (.call 14 (Go.Sx.L2.zA0).rel [.v 1, .v 2, .c (2), .c (1), .c (2), .c (3), .c (0)] [] 0 0 (.call 17 (Go.Sx.L2.zX0).rel [.v 1, .v 2] [] 0 0 (.done [] [])))) (.letI (.cmp .eql (.v 5) (.c 5)) (.ite (.v 11) (.call 14 (Go.Sx.L2.zA0).rel [.v 1, .v 2] [] 0 0 (.call 14 (Go.Sx.L2.zA0).rel [.v 1, .v 2, .c (6), .c (0), .c (5), .c (3), .c (0)] [] 0 0 (.call 17 (Go.Sx.L2.zX0).rel [.v 1, .v 2] [] 0 0 (.done [] [])))) (.letI (.cmp .eql (.v 5) (.c 6)) (.ite (.v 12) (.call 14 (Go.Sx.L2.zA0).rel [.v 1, .v 2] [] 0 0 (.call 14 (Go.Sx.L2.zA0).rel [.v 1, .v 2, .c (6), .c (0), .c (1), .c (3), .c (0)] [] 0 0 (.call 17 (Go.Sx.L2.zX0).rel [.v 1, .v 2] [] 0 0 (.done [] [])))) (.letI (.cmp .eql (.v 5) (.c 7)) (.ite (.v 13) (.call 14 (Go.Sx.L2.zA0).rel [.v 1, .v 2] [] 0 0 (.call 14 (Go.Sx.L2.zA0).rel [.v 1, .v 2, .c (6), .c (1), .c (1), .c (3), .c (0)] [] 0 0 (.call 17 (Go.Sx.L2.zX0).rel [.v 1, .v 2] [] 0 0 (.done [] [])))) (.letI (.cmp .eql (.v 5) (.c 8)) (.ite (.v 14) (.call 14 (Go.Sx.L2.zA0).rel [.v 1, .v 2] [] 0 0 (.call 14 (Go.Sx.L2.zA0).rel [.v 1, .v 2, .c (8), .c (4), .c (3), .c (0), .c (0)] [] 0 0 (.call 17 (Go.Sx.L2.zX0).rel [.v 1, .v 2] [] 0 0 (.done [] [])))) (.letI (.cmp .eql (.v 5) (.c 9)) (.ite (.v 15) (.call 14 (Go.Sx.L2.zA0).rel [.v 1, .v 2] [] 0 0 (.call 14 (Go.Sx.L2.zA0).rel [.v 1, .v 2, .c (8), .c (0), .c (3), .c (0), .c (0)] [] 0 0 (.call 17 (Go.Sx.L2.zX0).rel [.v 1, .v 2] [] 0 0 (.done [] [])))) (.letI (.cmp .eql (.v 5) (.c 10)) (.ite (.v 16) (.call 14 (Go.Sx.L2.zA0).rel [.v 1, .v 2] [] 0 0 (.call 14 (Go.Sx.L2.zA0).rel [.v 1, .v 2, .c (6), .c (0), .c (5), .c (0), .c (0)] [] 0 0 (.call 17 (Go.Sx.L2.zX0).rel [.v 1, .v 2] [] 0 0 (.done [] [])))) (.letI (.cmp .eql (.v 5) (.c 11)) (.ite (.v 17) (.call 14 (Go.Sx.L2.zA0).rel [.v 1, .v 2] [] 0 0 (.call 14 (Go.Sx.L2.zA0).rel [.v 1, .v 2, .c (99), .c (0), .c (0), .c (0), .c (0)] [] 0 0 (.call 17 (Go.Sx.L2.zX0).rel [.v 1, .v 2] [] 0 0 (.done [] [])))) (.letI (.cmp .eql (.v 5) (.c 12)) (.ite (.v 18) (.call 14 (Go.Sx.L2.zA0).rel [.v 1, .v 2] [] 0 0 (.call 14 (Go.Sx.L2.zA0).rel [.v 1, .v 2, .c (2), .c (0), .c (0), .c (3), .c (0)] [] 0 0 (.call 17 (Go.Sx.L2.zX0).rel [.v 1, .v 2] [] 0 0 (.done [] [])))) (.call 14 (Go.Sx.L2.zA0).rel [.v 1, .v 2] [] 0 0 (.call 14 (Go.Sx.L2.zA0).rel [.v 1, .v 2, .c (7), .c (7), .c (0), .c (0), .c (0)] [] 0 0 (.call 17 (Go.Sx.L2.zX0).rel [.v 1, .v 2] [] 0 0 (.done [] [])))))))))))))))))))))))))))))))))))))
theorem PlainOrder_tree : (lawSpec L2.f_messuagelaw11_PlainOrder [.one (.i .i64)]).exe Tryz.prog (withC (withA (withA (withS (L2.cfgB Tryz.prog) [L2.pNew1]) L2.f_plain_Kernel_Do [L2.zA0, L2.zO0, L2.zO1, L2.zR0, L2.zR1, L2.zR2, L2.zR3, L2.zR4, L2.zR5, L2.zR6, L2.zR7, L2.zR8, L2.zR9, L2.zR10, L2.zR11, L2.zR12, L2.zR13, L2.zOff]) L2.f_plain_Kernel_Err [L2.zX0, L2.zX1, L2.zX2, L2.zX3, L2.zX4, L2.zX5, L2.zX6, L2.zX7, L2.zX8, L2.zX9, L2.zX10, L2.zX11, L2.zX12, L2.zX13])) [] 20 200 = PlainOrder_t := by kernel_rfl
theorem PlainOrder_vc (Q : List Int → List (List Int) → Prop) (v0 : Int) : PlainOrder_t.dn ⟨Q, []⟩ 1 [v0] 0 [] = ((Go.Sx.L2.yes Go.Sx.L2.f_messuagelaw11_begun).rel.pre [] [] ∧
((Go.Sx.L2.yes Go.Sx.L2.f_messuagelaw11_begun).rel.post [] [] [] [] → (Go.Sx.L2.pNew1).rel.pre [] [] ∧
(∀ v1 : Int, ∀ v2 : Int, (Go.Sx.L2.pNew1).rel.post [] [] [v1, v2] [] → (Go.Sx.L2.zA0).rel.pre [v1, v2] [] ∧
((Go.Sx.L2.zA0).rel.post [v1, v2] [] [] [] → (Go.Sx.L2.zA0).rel.pre [v1, v2] [] ∧
((Go.Sx.L2.zA0).rel.post [v1, v2] [] [] [] → (Go.Sx.L2.zA0).rel.pre [v1, v2] [] ∧
((Go.Sx.L2.zA0).rel.post [v1, v2] [] [] [] → ∀ v3 : Int, v3 = (v0).tmod (14 : Int) → ∀ v4 : Int, v4 = v3 + (14 : Int) → ∀ v5 : Int, v5 = (v4).tmod (14 : Int) → ((v5 = (0 : Int)) → (Go.Sx.L2.zA0).rel.pre [v1, v2] [] ∧
((Go.Sx.L2.zA0).rel.post [v1, v2] [] [] [] → (Go.Sx.L2.zA0).rel.pre [v1, v2, (1 : Int), (0 : Int), (0 : Int), (0 : Int), (0 : Int)] [] ∧
((Go.Sx.L2.zA0).rel.post [v1, v2, (1 : Int), (0 : Int), (0 : Int), (0 : Int), (0 : Int)] [] [] [] → (Go.Sx.L2.zX0).rel.pre [v1, v2] [] ∧
((Go.Sx.L2.zX0).rel.post [v1, v2] [] [] [] → Q [] [])))) ∧
((v5 ≠ (0 : Int)) → ((v5 = (1 : Int)) → (Go.Sx.L2.zA0).rel.pre [v1, v2] [] ∧
((Go.Sx.L2.zA0).rel.post [v1, v2] [] [] [] → (Go.Sx.L2.zA0).rel.pre [v1, v2, (1 : Int), (2 : Int), (0 : Int), (0 : Int), (0 : Int)] [] ∧
((Go.Sx.L2.zA0).rel.post [v1, v2, (1 : Int), (2 : Int), (0 : Int), (0 : Int), (0 : Int)] [] [] [] → (Go.Sx.L2.zX0).rel.pre [v1, v2] [] ∧
((Go.Sx.L2.zX0).rel.post [v1, v2] [] [] [] → Q [] [])))) ∧
((v5 ≠ (1 : Int)) → ((v5 = (2 : Int)) → (Go.Sx.L2.zA0).rel.pre [v1, v2] [] ∧
((Go.Sx.L2.zA0).rel.post [v1, v2] [] [] [] → (Go.Sx.L2.zA0).rel.pre [v1, v2, (2 : Int), (5 : Int), (0 : Int), (3 : Int), (0 : Int)] [] ∧
((Go.Sx.L2.zA0).rel.post [v1, v2, (2 : Int), (5 : Int), (0 : Int), (3 : Int), (0 : Int)] [] [] [] → (Go.Sx.L2.zX0).rel.pre [v1, v2] [] ∧
((Go.Sx.L2.zX0).rel.post [v1, v2] [] [] [] → Q [] [])))) ∧
((v5 ≠ (2 : Int)) → ((v5 = (3 : Int)) → (Go.Sx.L2.zA0).rel.pre [v1, v2] [] ∧
((Go.Sx.L2.zA0).rel.post [v1, v2] [] [] [] → (Go.Sx.L2.zA0).rel.pre [v1, v2, (2 : Int), (1 : Int), (0 : Int), (3 : Int), (0 : Int)] [] ∧
((Go.Sx.L2.zA0).rel.post [v1, v2, (2 : Int), (1 : Int), (0 : Int), (3 : Int), (0 : Int)] [] [] [] → (Go.Sx.L2.zX0).rel.pre [v1, v2] [] ∧
((Go.Sx.L2.zX0).rel.post [v1, v2] [] [] [] → Q [] [])))) ∧
((v5 ≠ (3 : Int)) → ((v5 = (4 : Int)) → (Go.Sx.L2.zA0).rel.pre [v1, v2] [] ∧
((Go.Sx.L2.zA0).rel.post [v1, v2] [] [] [] → (Go.Sx.L2.zA0).rel.pre [v1, v2, (2 : Int), (1 : Int), (2 : Int), (3 : Int), (0 : Int)] [] ∧
((Go.Sx.L2.zA0).rel.post [v1, v2, (2 : Int), (1 : Int), (2 : Int), (3 : Int), (0 : Int)] [] [] [] → (Go.Sx.L2.zX0).rel.pre [v1, v2] [] ∧
((Go.Sx.L2.zX0).rel.post [v1, v2] [] [] [] → Q [] [])))) ∧
((v5 ≠ (4 : Int)) → ((v5 = (5 : Int)) → (Go.Sx.L2.zA0).rel.pre [v1, v2] [] ∧
((Go.Sx.L2.zA0).rel.post [v1, v2] [] [] [] → (Go.Sx.L2.zA0).rel.pre [v1, v2, (6 : Int), (0 : Int), (5 : Int), (3 : Int), (0 : Int)] [] ∧
((Go.Sx.L2.zA0).rel.post [v1, v2, (6 : Int), (0 : Int), (5 : Int), (3 : Int), (0 : Int)] [] [] [] → (Go.Sx.L2.zX0).rel.pre [v1, v2] [] ∧
((Go.Sx.L2.zX0).rel.post [v1, v2] [] [] [] → Q [] [])))) ∧
((v5 ≠ (5 : Int)) → ((v5 = (6 : Int)) → (Go.Sx.L2.zA0).rel.pre [v1, v2] [] ∧
((Go.Sx.L2.zA0).rel.post [v1, v2] [] [] [] → (Go.Sx.L2.zA0).rel.pre [v1, v2, (6 : Int), (0 : Int), (1 : Int), (3 : Int), (0 : Int)] [] ∧
((Go.Sx.L2.zA0).rel.post [v1, v2, (6 : Int), (0 : Int), (1 : Int), (3 : Int), (0 : Int)] [] [] [] → (Go.Sx.L2.zX0).rel.pre [v1, v2] [] ∧
((Go.Sx.L2.zX0).rel.post [v1, v2] [] [] [] → Q [] [])))) ∧
((v5 ≠ (6 : Int)) → ((v5 = (7 : Int)) → (Go.Sx.L2.zA0).rel.pre [v1, v2] [] ∧
((Go.Sx.L2.zA0).rel.post [v1, v2] [] [] [] → (Go.Sx.L2.zA0).rel.pre [v1, v2, (6 : Int), (1 : Int), (1 : Int), (3 : Int), (0 : Int)] [] ∧
((Go.Sx.L2.zA0).rel.post [v1, v2, (6 : Int), (1 : Int), (1 : Int), (3 : Int), (0 : Int)] [] [] [] → (Go.Sx.L2.zX0).rel.pre [v1, v2] [] ∧
((Go.Sx.L2.zX0).rel.post [v1, v2] [] [] [] → Q [] [])))) ∧
((v5 ≠ (7 : Int)) → ((v5 = (8 : Int)) → (Go.Sx.L2.zA0).rel.pre [v1, v2] [] ∧
((Go.Sx.L2.zA0).rel.post [v1, v2] [] [] [] → (Go.Sx.L2.zA0).rel.pre [v1, v2, (8 : Int), (4 : Int), (3 : Int), (0 : Int), (0 : Int)] [] ∧
((Go.Sx.L2.zA0).rel.post [v1, v2, (8 : Int), (4 : Int), (3 : Int), (0 : Int), (0 : Int)] [] [] [] → (Go.Sx.L2.zX0).rel.pre [v1, v2] [] ∧
((Go.Sx.L2.zX0).rel.post [v1, v2] [] [] [] → Q [] [])))) ∧
((v5 ≠ (8 : Int)) → ((v5 = (9 : Int)) → (Go.Sx.L2.zA0).rel.pre [v1, v2] [] ∧
((Go.Sx.L2.zA0).rel.post [v1, v2] [] [] [] → (Go.Sx.L2.zA0).rel.pre [v1, v2, (8 : Int), (0 : Int), (3 : Int), (0 : Int), (0 : Int)] [] ∧
((Go.Sx.L2.zA0).rel.post [v1, v2, (8 : Int), (0 : Int), (3 : Int), (0 : Int), (0 : Int)] [] [] [] → (Go.Sx.L2.zX0).rel.pre [v1, v2] [] ∧
((Go.Sx.L2.zX0).rel.post [v1, v2] [] [] [] → Q [] [])))) ∧
((v5 ≠ (9 : Int)) → ((v5 = (10 : Int)) → (Go.Sx.L2.zA0).rel.pre [v1, v2] [] ∧
((Go.Sx.L2.zA0).rel.post [v1, v2] [] [] [] → (Go.Sx.L2.zA0).rel.pre [v1, v2, (6 : Int), (0 : Int), (5 : Int), (0 : Int), (0 : Int)] [] ∧
((Go.Sx.L2.zA0).rel.post [v1, v2, (6 : Int), (0 : Int), (5 : Int), (0 : Int), (0 : Int)] [] [] [] → (Go.Sx.L2.zX0).rel.pre [v1, v2] [] ∧
((Go.Sx.L2.zX0).rel.post [v1, v2] [] [] [] → Q [] [])))) ∧
((v5 ≠ (10 : Int)) → ((v5 = (11 : Int)) → (Go.Sx.L2.zA0).rel.pre [v1, v2] [] ∧
((Go.Sx.L2.zA0).rel.post [v1, v2] [] [] [] → (Go.Sx.L2.zA0).rel.pre [v1, v2, (99 : Int), (0 : Int), (0 : Int), (0 : Int), (0 : Int)] [] ∧
((Go.Sx.L2.zA0).rel.post [v1, v2, (99 : Int), (0 : Int), (0 : Int), (0 : Int), (0 : Int)] [] [] [] → (Go.Sx.L2.zX0).rel.pre [v1, v2] [] ∧
((Go.Sx.L2.zX0).rel.post [v1, v2] [] [] [] → Q [] [])))) ∧
((v5 ≠ (11 : Int)) → ((v5 = (12 : Int)) → (Go.Sx.L2.zA0).rel.pre [v1, v2] [] ∧
((Go.Sx.L2.zA0).rel.post [v1, v2] [] [] [] → (Go.Sx.L2.zA0).rel.pre [v1, v2, (2 : Int), (0 : Int), (0 : Int), (3 : Int), (0 : Int)] [] ∧
((Go.Sx.L2.zA0).rel.post [v1, v2, (2 : Int), (0 : Int), (0 : Int), (3 : Int), (0 : Int)] [] [] [] → (Go.Sx.L2.zX0).rel.pre [v1, v2] [] ∧
((Go.Sx.L2.zX0).rel.post [v1, v2] [] [] [] → Q [] [])))) ∧
((v5 ≠ (12 : Int)) → (Go.Sx.L2.zA0).rel.pre [v1, v2] [] ∧
((Go.Sx.L2.zA0).rel.post [v1, v2] [] [] [] → (Go.Sx.L2.zA0).rel.pre [v1, v2, (7 : Int), (7 : Int), (0 : Int), (0 : Int), (0 : Int)] [] ∧
((Go.Sx.L2.zA0).rel.post [v1, v2, (7 : Int), (7 : Int), (0 : Int), (0 : Int), (0 : Int)] [] [] [] → (Go.Sx.L2.zX0).rel.pre [v1, v2] [] ∧
((Go.Sx.L2.zX0).rel.post [v1, v2] [] [] [] → Q [] [])))))))))))))))))))))) := by kernel_rfl
set_option maxHeartbeats 4000000 in
theorem plainOrder_holds0 : (lawSpec L2.f_messuagelaw11_PlainOrder [.one (.i .i64)]).Holds Tryz.prog L2.ro := FSpec.holdsV (cfg := withC (withA (withA (withS (L2.cfgB Tryz.prog) [L2.pNew1]) L2.f_plain_Kernel_Do [L2.zA0, L2.zO0, L2.zO1, L2.zR0, L2.zR1, L2.zR2, L2.zR3, L2.zR4, L2.zR5, L2.zR6, L2.zR7, L2.zR8, L2.zR9, L2.zR10, L2.zR11, L2.zR12, L2.zR13, L2.zOff]) L2.f_plain_Kernel_Err [L2.zX0, L2.zX1, L2.zX2, L2.zX3, L2.zX4, L2.zX5, L2.zX6, L2.zX7, L2.zX8, L2.zX9, L2.zX10, L2.zX11, L2.zX12, L2.zX13])) [] 20 200 (withC_ok (withA_ok (withA_ok (withS_ok cfgB_ok ⟨pNew1_holds, trivial⟩) (fun s hs => by
  simp only [List.mem_cons, List.not_mem_nil, or_false] at hs
  rcases hs with rfl | rfl | rfl | rfl | rfl | rfl | rfl | rfl | rfl | rfl | rfl | rfl | rfl | rfl | rfl | rfl | rfl | rfl <;> rfl) ⟨zA0_holds, zO0_holds, zO1_holds, zR0_holds, zR1_holds, zR2_holds, zR3_holds, zR4_holds, zR5_holds, zR6_holds, zR7_holds, zR8_holds, zR9_holds, zR10_holds, zR11_holds, zR12_holds, zR13_holds, zOff_holds, trivial⟩) (fun s hs => by
  simp only [List.mem_cons, List.not_mem_nil, or_false] at hs
  rcases hs with rfl | rfl | rfl | rfl | rfl | rfl | rfl | rfl | rfl | rfl | rfl | rfl | rfl | rfl <;> rfl) ⟨zX0_holds, zX1_holds, zX2_holds, zX3_holds, zX4_holds, zX5_holds, zX6_holds, zX7_holds, zX8_holds, zX9_holds, zX10_holds, zX11_holds, zX12_holds, zX13_holds, trivial⟩)) mixed (t := PlainOrder_t) PlainOrder_tree (by
  show ∀ (v0 : Int) , _
  intro v0  hp hr hl
  replace hr : ((-9223372036854775808 : Int) ≤ v0 ∧ v0 ≤ (9223372036854775807 : Int)) ∧ True := hr
  replace hp : True := hp
  show PlainOrder_t.dn ⟨_, []⟩ 1 [v0] 0 []
  rw [PlainOrder_vc]
  show ((L2.yes L2.f_messuagelaw11_begun).rel.pre [] [] ∧ _)
  refine ⟨trivial, fun _ => ?_⟩
  repeat' first | refine And.intro ?_ ?_ | intro _
  all_goals trivial)
theorem plainOrder_holds : ((lawSpec L2.f_messuagelaw11_PlainOrder [.one (.i .i64)]).withPre fun _ => True).Holds Tryz.prog L2.ro := holds_withPre _ plainOrder_holds0

theorem plainOrder_calls {H : Type} {enc : TypeId × Value → H} {W : World} {base : Nat} {args : Array Value} {ds : List (DataW H)} {p : List MemPlace} (hval : ∀ (j : Nat) t v, Tryz.f5.params[j]? = some t → args[j]? = some v → Value.okWide Tryz.prog W .any base t v)
    (hA : DataW.TrodAll enc Tryz.prog W 0 (fun _ => true) true Tryz.f5.params.toList args.toList ds p) (hL : laidMetH Tryz.prog laid1 W) : Calls Tryz.prog 5 args W fun e W' => e = .returned (.bool true) ∧ Go.Sx.Frame ⟨W, [], L2.ro⟩ W' := by
  rw [Tryz.params5] at hA hval
  obtain ⟨v0, d0, rfl, rfl, h0⟩ := trodAll_one hA
  obtain ⟨n0, q0⟩ := par_int (base := 0) und3 (hval 0 3 v0 rfl rfl) h0
  exact law_calls (plainOrder_holds) Tryz.func5 (show Tryz.f5.body = some _ from rfl) (by kernel_rfl) (.cons q0 .none) trivial (ro_of_laid hL)
set_option maxHeartbeats 1000000 in
theorem plainOrder_lifted (os : Os) (started : os.Started) (H : Type) (enc : TypeId × Value → H) :
    ReturnsInHanded {} Tryz.checked os 5 .any (fun w args => (Rows.plainOrderSpec.pre enc Tryz.prog Tryz.f5 [] false w args ∧ laidMetH Tryz.prog laid1 w) ∧ sizedMet enc Tryz.prog Tryz.f5 (OpenSpec.ofChange Rows.plainOrderSpec) false w args)
      (Rows.plainOrderSpec.post enc Tryz.prog Tryz.f5 false true false false) := by
  refine returnsInHanded_of_change_and (C := Tryz.checked) (X := fun w _ => laidMetH Tryz.prog laid1 w) (fun _ _ _ hh h => h.of_heap hh) Tryz.own started (by kernel_rfl) Tryz.func5
    (ChangeSpec.witness_at (enc := enc) (C := Tryz.checked) (os := os) (X := fun w _ => laidMetH Tryz.prog laid1 w) false (laidWorld os) #[.int .i64 0] 8 rfl (by kernel_rfl) (by kernel_rfl) (by kernel_rfl) (by kernel_rfl) (by kernel_rfl) (laidWorld_met os _)) ?_
  intro W base args ds gs before hval0 hW _ _ hL _
  have hval : ∀ (j : Nat) t v, Tryz.f5.params[j]? = some t → args[j]? = some v → Value.okWide Tryz.prog W .any base t v := hval0
  have hW' := hW
  obtain ⟨p, q, hA0, hV0, rfl, hfz, hnd⟩ := hW
  have hcall := plainOrder_calls (enc := enc) hval hA0 hL
  refine Calls.mono hcall ?_
  rintro e W' ⟨rfl, hfr⟩
  exact ⟨_, rfl, post_kept Tryz.laidOut (by kernel_rfl) rfl rfl und4 hW' hfr (by
    have hg : gs = [] := by cases gs with | nil => rfl | cons g r => exact absurd hV0 (by intro h; cases h)
    subst hg
    have hA1 : DataW.TrodAll enc Tryz.prog W 0 (fun _ => true) true Tryz.f5.params.toList args.toList ds p := hA0
    rw [Tryz.params5] at hA1
    obtain ⟨v0, d0, ea, rfl, h0⟩ := trodAll_one hA1
    rfl)⟩

theorem plainOrder_row : Rows.PlainOrderSaid :=
  OpenClaim.holds_of_wide 5 Tryz.f5 rfl rfl rfl rfl rfl rfl rfl ⟨rfl, rfl, rfl, rfl, rfl⟩ rfl rfl rfl rfl rfl (by kernel_rfl) Tryz.func5 (restFacts.2 _ _ _ _ _ Tryz.mayEnter Tryz.liftsFinal Tryz.make (by kernel_rfl))
    (of_decide_eq_true (by kernel_rfl)) (by unfold Func.isWrapper; rw [if_neg (of_decide_eq_false (by kernel_rfl))]; exact ⟨rfl, rfl⟩)
    (fun os started H enc _ => plainOrder_lifted os started H enc)
theorem plainOrder_card : Rows.PlainOrderCardSaid :=
  Claim7.holds_tied_plain_at .later [] [.handle] true (true, "03e61672702d19706c8d68169ee10bb2a69f43bc4acf47496bc14f440cc30522") true
    plainOrder_row (fun _ h => by cases h) (by kernel_rfl) (fun _ h => by cases h) plainOrder_row_tie rfl ⟨rfl, rfl⟩ Tryz.mainIs rfl
    (fun f fn hf hfn => by
      obtain rfl : f = 5 := Option.some.inj ((show Tryz.prog.funcNamed "messuage/messuagelaw11.PlainOrder" = some 5 by kernel_rfl).symm.trans hf) |>.symm
      obtain rfl : fn = Tryz.f5 := (Option.some.inj (Tryz.func5.symm.trans hfn)).symm
      exact ⟨by kernel_rfl, fun j t ht => by
        rw [Tryz.params5] at ht
        rcases j with _ | j
        · obtain rfl : 3 = t := by simpa using ht
          exact (show Tryz.prog.wantsStandIn 3 = false by kernel_rfl)
        · simp at ht⟩)
    (by kernel_rfl)
#print axioms plainOrder_card
end Go.Proofs.YtbeeilndeglnhaaGreatDoor
