/- Contract: a kernel's call. -/
import Derived.Test.YtpmgfdakljjlaaaGreatDoorL2Facts
import Derived.Test.YtpmgfdakljjlaaaGreatDoorSxM7
import Derived.Test.YtpmgfdakljjlaaaGreatDoorL2P
set_option linter.unusedVariables false
set_option linter.constructorNameAsVariable false
set_option linter.unusedSimpArgs false
open Go Go.Sx
namespace Go.Proofs.YtpmgfdakljjlaaaGreatDoor
set_option maxRecDepth 100000
noncomputable def pDoC_t : Tree := .both (.done [] []) (.done [] [])
theorem pDoC_tree : (L2.pDoC).exe Tryz.prog (L2.cfg Tryz.prog) [] 20 200 = pDoC_t := by kernel_rfl
theorem pDoC_vc (Q : List Int → List (List Int) → Prop) (v0 v1 : Int) : pDoC_t.dn ⟨Q, []⟩ 2 [v1, v0] 0 [] = ((Q [] []) ∧
(Q [] [])) := by kernel_rfl
set_option maxHeartbeats 4000000 in
theorem pDoC_holds : (L2.pDoC).Holds Tryz.prog L2.ro := FSpec.holdsV (cfg := L2.cfg Tryz.prog) [] 20 200 cfg_ok mixed (t := pDoC_t) pDoC_tree (by
  show ∀ (v0 v1 : Int) , _
  intro v0 v1  hp hr hl
  replace hr : (((2) : Int) ≤ v0 ∧ v0 ≤ ((9223372036854775807) : Int)) ∧ (((2) : Int) ≤ v1 ∧ v1 ≤ ((9223372036854775807) : Int)) ∧ True := hr
  replace hl : True := hl
  show pDoC_t.dn ⟨_, []⟩ 2 [v1, v0] 0 []
  rw [pDoC_vc]
  repeat' first | refine And.intro ?_ ?_ | intro _
  all_goals trivial)
end Go.Proofs.YtpmgfdakljjlaaaGreatDoor
