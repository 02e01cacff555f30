/- Contract: a load. -/
import Derived.Test.YtpmgfdakljjlaaaGreatDoorL2Facts
import Derived.Test.YtpmgfdakljjlaaaGreatDoorSxM7
import Derived.Test.YtpmgfdakljjlaaaGreatDoorL2P
set_option linter.unusedVariables false
set_option linter.constructorNameAsVariable false
set_option linter.unusedSimpArgs false
open Go Go.Sx
namespace Go.Proofs.YtpmgfdakljjlaaaGreatDoor
set_option maxRecDepth 100000
noncomputable def uDo1_t : Tree := .done [] []
theorem uDo1_tree : (L2.uDo1).exe Tryz.prog (L2.cfg Tryz.prog) [] 20 200 = uDo1_t := by kernel_rfl
theorem uDo1_vc (Q : List Int → List (List Int) → Prop) (v0 : Int) : uDo1_t.dn ⟨Q, []⟩ 1 [v0] 0 [] = (Q [] []) := by kernel_rfl
set_option maxHeartbeats 4000000 in
theorem uDo1_holds : (L2.uDo1).Holds Tryz.prog L2.ro := FSpec.holdsV (cfg := L2.cfg Tryz.prog) [] 20 200 cfg_ok mixed (t := uDo1_t) uDo1_tree (by
  show ∀ (v0 : Int) , _
  intro v0  hp hr hl
  replace hr : (((2) : Int) ≤ v0 ∧ v0 ≤ ((9223372036854775807) : Int)) ∧ True := hr
  replace hl : True := hl
  show uDo1_t.dn ⟨_, []⟩ 1 [v0] 0 []
  rw [uDo1_vc]
  repeat' first | refine And.intro ?_ ?_ | intro _
  all_goals trivial)
end Go.Proofs.YtpmgfdakljjlaaaGreatDoor
