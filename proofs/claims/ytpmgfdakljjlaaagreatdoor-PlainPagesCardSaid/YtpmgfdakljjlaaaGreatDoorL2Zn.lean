/- Contract: a kernel of one frame. -/
import Derived.Test.YtpmgfdakljjlaaaGreatDoorL2Facts
import Derived.Test.YtpmgfdakljjlaaaGreatDoorSxM7
import Derived.Test.YtpmgfdakljjlaaaGreatDoorL2ZP
set_option linter.unusedVariables false
set_option linter.constructorNameAsVariable false
set_option linter.unusedSimpArgs false
open Go Go.Sx
namespace Go.Proofs.YtpmgfdakljjlaaaGreatDoor
set_option maxRecDepth 100000
noncomputable def pNew1_t : Tree := .any (.c 1) (.c 9223372036854775807) (.any (.c 1) (.c 9223372036854775807) (.any (.c 2) (.c 9223372036854775807) (.done [.v 2, .v 0] [])))
theorem pNew1_tree : (L2.pNew1).exe Tryz.prog (L2.cfg Tryz.prog) [] 20 200 = pNew1_t := by kernel_rfl
theorem pNew1_vc (Q : List Int → List (List Int) → Prop) : pNew1_t.dn ⟨Q, []⟩ 0 [] 0 [] = (∀ v0 : Int, (1 : Int) ≤ v0 → v0 ≤ (9223372036854775807 : Int) → ∀ v1 : Int, (1 : Int) ≤ v1 → v1 ≤ (9223372036854775807 : Int) → ∀ v2 : Int, (2 : Int) ≤ v2 → v2 ≤ (9223372036854775807 : Int) → Q [v2, v0] []) := by kernel_rfl
set_option maxHeartbeats 4000000 in
theorem pNew1_holds : (L2.pNew1).Holds Tryz.prog L2.ro := FSpec.holdsV (cfg := L2.cfg Tryz.prog) [] 20 200 cfg_ok mixed (t := pNew1_t) pNew1_tree (by
  show _ → _
  intro   hp hr hl
  replace hr : True := hr
  replace hl : True := hl
  show pNew1_t.dn ⟨_, []⟩ 0 [] 0 []
  rw [pNew1_vc]
  repeat' first | refine And.intro ?_ ?_ | intro _
  all_goals trivial)
end Go.Proofs.YtpmgfdakljjlaaaGreatDoor
