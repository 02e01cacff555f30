/- Contract: a kernel of two environments and two frames. -/
import Derived.Test.YtpmgfdakljjlaaaGreatDoorL2Pa
set_option linter.unusedVariables false
set_option linter.constructorNameAsVariable false
set_option linter.unusedSimpArgs false
open Go Go.Sx
namespace Go.Proofs.YtpmgfdakljjlaaaGreatDoor
set_option maxRecDepth 100000
theorem pa_ok : (withS (L2.cfg Tryz.prog) [L2.mNew2]).Ok Tryz.prog := withS_ok cfg_ok ⟨mNew2_holds, trivial⟩
noncomputable def pNew2_t : Tree := .call 26 (Go.Sx.L2.mNew2).rel [] [] 1 0 (.any (.c 1) (.c 9223372036854775807) (.any (.c 2) (.c 9223372036854775807) (.done [.v 2, .v 0] [])))
theorem pNew2_tree : (L2.pNew2).exe Tryz.prog (withS (L2.cfg Tryz.prog) [L2.mNew2]) [] 20 200 = pNew2_t := by kernel_rfl
theorem pNew2_vc (Q : List Int → List (List Int) → Prop) : pNew2_t.dn ⟨Q, []⟩ 0 [] 0 [] = ((Go.Sx.L2.mNew2).rel.pre [] [] ∧
(∀ v0 : Int, (Go.Sx.L2.mNew2).rel.post [] [] [v0] [] → ∀ v1 : Int, (1 : Int) ≤ v1 → v1 ≤ (9223372036854775807 : Int) → ∀ v2 : Int, (2 : Int) ≤ v2 → v2 ≤ (9223372036854775807 : Int) → Q [v2, v0] [])) := by kernel_rfl
set_option maxHeartbeats 4000000 in
theorem pNew2_holds : (L2.pNew2).Holds Tryz.prog L2.ro := FSpec.holdsV (cfg := withS (L2.cfg Tryz.prog) [L2.mNew2]) [] 20 200 pa_ok mixed (t := pNew2_t) pNew2_tree (by
  show _ → _
  intro   hp hr hl
  replace hr : True := hr
  replace hl : True := hl
  show pNew2_t.dn ⟨_, []⟩ 0 [] 0 []
  rw [pNew2_vc]
  repeat' first | refine And.intro ?_ ?_ | intro _
  all_goals trivial)
end Go.Proofs.YtpmgfdakljjlaaaGreatDoor
