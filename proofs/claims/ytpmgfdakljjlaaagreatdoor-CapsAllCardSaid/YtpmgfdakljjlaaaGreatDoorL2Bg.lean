/- The contract of messuagelaw11.begun. -/
import Derived.Test.YtpmgfdakljjlaaaGreatDoorL2A
import Derived.Test.YtpmgfdakljjlaaaGreatDoorL2PM
import Derived.Test.YtpmgfdakljjlaaaGreatDoorL2PN
set_option linter.unusedVariables false
set_option linter.constructorNameAsVariable false
set_option linter.unusedSimpArgs false
open Go Go.Sx
namespace Go.Proofs.YtpmgfdakljjlaaaGreatDoor
set_option maxRecDepth 100000
theorem bg_ok : (withA (withS (L2.cfg2 Tryz.prog) [L2.mNew2, L2.pNew2, L2.pErr3, L2.uDo1]) L2.f_plain_Kernel_Do [L2.pDoA, L2.pDoB, L2.pDoC, L2.pDoD]).Ok Tryz.prog := withA_ok (withS_ok cfg2_ok ⟨mNew2_holds, pNew2_holds, pErr3_holds, uDo1_holds, trivial⟩) (fun s hs => by
  simp only [List.mem_cons, List.not_mem_nil, or_false] at hs
  rcases hs with rfl | rfl | rfl | rfl <;> rfl) ⟨pDoA_holds, pDoB_holds, pDoC_holds, pDoD_holds, trivial⟩
noncomputable def begunB_t : Tree := .call 22 (Go.Sx.L2.pNew2).rel [] [] 2 0 (.call 26 (Go.Sx.L2.mNew2).rel [] [] 1 0 (.call 8 (Go.Sx.L2.pDoA).rel [.v 0, .v 1] [] 0 0 (.call 8 (Go.Sx.L2.pDoA).rel [.v 0, .v 1] [] 0 0 (.call 8 (Go.Sx.L2.pDoA).rel [.v 0, .v 1] [] 0 0 (.call 8 (Go.Sx.L2.pDoA).rel [.v 0, .v 1] [] 0 0 (.any (.c 1) (.c 9223372036854775807) (.call 30 (Go.Sx.L2.uDo1).rel [.v 2] [] 0 0 (.call 31 (Go.Sx.L2.pErr3).rel [.v 0, .v 1] [] 0 0 (.call 79 (Go.Sx.L2.yes Go.Sx.L2.f_messuagelaw2_begun).rel [] [] 0 0 (.any (.c 1) (.c 9223372036854775807) (.letI (.mul (.v 4) (.c 2)) (.any (.c 1) (.c 9223372036854775807) (.any (.c 1) (.c 9223372036854775807) (.any (.c 1) (.c 9223372036854775807) (.done [] [])))))))))))))))
theorem begunB_tree : (L2.yes L2.f_messuagelaw11_begun).exe Tryz.prog (withA (withS (L2.cfg2 Tryz.prog) [L2.mNew2, L2.pNew2, L2.pErr3, L2.uDo1]) L2.f_plain_Kernel_Do [L2.pDoA, L2.pDoB, L2.pDoC, L2.pDoD]) [] 20 200 = begunB_t := by kernel_rfl
theorem begunB_vc (Q : List Int → List (List Int) → Prop) : begunB_t.dn ⟨Q, []⟩ 0 [] 0 [] = ((Go.Sx.L2.pNew2).rel.pre [] [] ∧
(∀ v0 : Int, ∀ v1 : Int, (Go.Sx.L2.pNew2).rel.post [] [] [v0, v1] [] → (Go.Sx.L2.mNew2).rel.pre [] [] ∧
(∀ v2 : Int, (Go.Sx.L2.mNew2).rel.post [] [] [v2] [] → (Go.Sx.L2.pDoA).rel.pre [v0, v1] [] ∧
((Go.Sx.L2.pDoA).rel.post [v0, v1] [] [] [] → (Go.Sx.L2.pDoA).rel.pre [v0, v1] [] ∧
((Go.Sx.L2.pDoA).rel.post [v0, v1] [] [] [] → (Go.Sx.L2.pDoA).rel.pre [v0, v1] [] ∧
((Go.Sx.L2.pDoA).rel.post [v0, v1] [] [] [] → (Go.Sx.L2.pDoA).rel.pre [v0, v1] [] ∧
((Go.Sx.L2.pDoA).rel.post [v0, v1] [] [] [] → ∀ v3 : Int, (1 : Int) ≤ v3 → v3 ≤ (9223372036854775807 : Int) → (Go.Sx.L2.uDo1).rel.pre [v2] [] ∧
((Go.Sx.L2.uDo1).rel.post [v2] [] [] [] → (Go.Sx.L2.pErr3).rel.pre [v0, v1] [] ∧
((Go.Sx.L2.pErr3).rel.post [v0, v1] [] [] [] → (Go.Sx.L2.yes Go.Sx.L2.f_messuagelaw2_begun).rel.pre [] [] ∧
((Go.Sx.L2.yes Go.Sx.L2.f_messuagelaw2_begun).rel.post [] [] [] [] → ∀ v4 : Int, (1 : Int) ≤ v4 → v4 ≤ (9223372036854775807 : Int) → ∀ v5 : Int, v5 = v4 * (2 : Int) → ∀ v6 : Int, (1 : Int) ≤ v6 → v6 ≤ (9223372036854775807 : Int) → ∀ v7 : Int, (1 : Int) ≤ v7 → v7 ≤ (9223372036854775807 : Int) → ∀ v8 : Int, (1 : Int) ≤ v8 → v8 ≤ (9223372036854775807 : Int) → Q [] [])))))))))) := by kernel_rfl
set_option maxHeartbeats 4000000 in
theorem begunB_holds : (L2.yes L2.f_messuagelaw11_begun).Holds Tryz.prog L2.ro := FSpec.holdsV (cfg := withA (withS (L2.cfg2 Tryz.prog) [L2.mNew2, L2.pNew2, L2.pErr3, L2.uDo1]) L2.f_plain_Kernel_Do [L2.pDoA, L2.pDoB, L2.pDoC, L2.pDoD]) [] 20 200 bg_ok mixed (t := begunB_t) begunB_tree (by
  show _ → _
  intro   hp hr hl
  replace hr : True := hr
  replace hl : True := hl
  show begunB_t.dn ⟨_, []⟩ 0 [] 0 []
  rw [begunB_vc]
  repeat' first | refine And.intro ?_ ?_ | intro _
  all_goals trivial)
end Go.Proofs.YtpmgfdakljjlaaaGreatDoor
