/- Contract: a memory of two frames. -/
import Derived.Test.YtpmgfdakljjlaaaGreatDoorL2Facts
import Derived.Test.YtpmgfdakljjlaaaGreatDoorSxM7
import Derived.Test.YtpmgfdakljjlaaaGreatDoorL2P
set_option linter.unusedVariables false
set_option linter.constructorNameAsVariable false
set_option linter.unusedSimpArgs false
open Go Go.Sx
namespace Go.Proofs.YtpmgfdakljjlaaaGreatDoor
set_option maxRecDepth 100000
noncomputable def mNew2_t : Tree := .any (.c 1) (.c 9223372036854775807) (.any (.c 2) (.c 9223372036854775807) (.done [.v 1] []))
theorem mNew2_tree : (L2.mNew2).exe Tryz.prog (L2.cfg Tryz.prog) [] 20 200 = mNew2_t := by kernel_rfl
theorem mNew2_vc (Q : List Int → List (List Int) → Prop) : mNew2_t.dn ⟨Q, []⟩ 0 [] 0 [] = (∀ v0 : Int, (1 : Int) ≤ v0 → v0 ≤ (9223372036854775807 : Int) → ∀ v1 : Int, (2 : Int) ≤ v1 → v1 ≤ (9223372036854775807 : Int) → Q [v1] []) := by kernel_rfl
set_option maxHeartbeats 4000000 in
theorem mNew2_holds : (L2.mNew2).Holds Tryz.prog L2.ro := FSpec.holdsV (cfg := L2.cfg Tryz.prog) [] 20 200 cfg_ok mixed (t := mNew2_t) mNew2_tree (by
  show _ → _
  intro   hp hr hl
  replace hr : True := hr
  replace hl : True := hl
  show mNew2_t.dn ⟨_, []⟩ 0 [] 0 []
  rw [mNew2_vc]
  repeat' first | refine And.intro ?_ ?_ | intro _
  all_goals trivial)
end Go.Proofs.YtpmgfdakljjlaaaGreatDoor
