/- Contracts: calls of PlainPages, closed. -/
import Derived.Test.YtpmgfdakljjlaaaGreatDoorL2Facts
import Derived.Test.YtpmgfdakljjlaaaGreatDoorSxM7
import Derived.Test.YtpmgfdakljjlaaaGreatDoorL2J
set_option linter.unusedVariables false
set_option linter.constructorNameAsVariable false
set_option linter.unusedSimpArgs false
open Go Go.Sx
namespace Go.Proofs.YtpmgfdakljjlaaaGreatDoor
set_option maxRecDepth 100000
noncomputable def jA_t : Tree := .done [] []
theorem jA_tree : (L2.jA).exe Tryz.prog (L2.cfg Tryz.prog) [] 20 200 = jA_t := by kernel_rfl
theorem jA_vc (Q : List Int → List (List Int) → Prop) (v0 v1 : Int) : jA_t.dn ⟨Q, []⟩ 2 [v1, v0] 0 [] = (Q [] []) := by kernel_rfl
set_option maxHeartbeats 4000000 in
theorem jA_holds : (L2.jA).Holds Tryz.prog L2.ro := FSpec.holdsV (cfg := L2.cfg Tryz.prog) [] 20 200 cfg_ok mixed (t := jA_t) jA_tree (by
  show ∀ (v0 v1 : Int) , _
  intro v0 v1  hp hr hl
  replace hr : (((2) : Int) ≤ v0 ∧ v0 ≤ ((9223372036854775807) : Int)) ∧ (((1) : Int) ≤ v1 ∧ v1 ≤ ((9223372036854775807) : Int)) ∧ True := hr
  replace hl : True := hl
  show jA_t.dn ⟨_, []⟩ 2 [v1, v0] 0 []
  rw [jA_vc]
  repeat' first | refine And.intro ?_ ?_ | intro _
  all_goals trivial)
noncomputable def jB_t : Tree := .done [] []
theorem jB_tree : (L2.jB).exe Tryz.prog (L2.cfg Tryz.prog) [] 20 200 = jB_t := by kernel_rfl
theorem jB_vc (Q : List Int → List (List Int) → Prop) (v0 v1 : Int) : jB_t.dn ⟨Q, []⟩ 2 [v1, v0] 0 [] = (Q [] []) := by kernel_rfl
set_option maxHeartbeats 4000000 in
theorem jB_holds : (L2.jB).Holds Tryz.prog L2.ro := FSpec.holdsV (cfg := L2.cfg Tryz.prog) [] 20 200 cfg_ok mixed (t := jB_t) jB_tree (by
  show ∀ (v0 v1 : Int) , _
  intro v0 v1  hp hr hl
  replace hr : (((2) : Int) ≤ v0 ∧ v0 ≤ ((9223372036854775807) : Int)) ∧ (((1) : Int) ≤ v1 ∧ v1 ≤ ((9223372036854775807) : Int)) ∧ True := hr
  replace hl : True := hl
  show jB_t.dn ⟨_, []⟩ 2 [v1, v0] 0 []
  rw [jB_vc]
  repeat' first | refine And.intro ?_ ?_ | intro _
  all_goals trivial)
noncomputable def jC_t : Tree := .done [] []
theorem jC_tree : (L2.jC).exe Tryz.prog (L2.cfg Tryz.prog) [] 20 200 = jC_t := by kernel_rfl
theorem jC_vc (Q : List Int → List (List Int) → Prop) (v0 v1 : Int) : jC_t.dn ⟨Q, []⟩ 2 [v1, v0] 0 [] = (Q [] []) := by kernel_rfl
set_option maxHeartbeats 4000000 in
theorem jC_holds : (L2.jC).Holds Tryz.prog L2.ro := FSpec.holdsV (cfg := L2.cfg Tryz.prog) [] 20 200 cfg_ok mixed (t := jC_t) jC_tree (by
  show ∀ (v0 v1 : Int) , _
  intro v0 v1  hp hr hl
  replace hr : (((2) : Int) ≤ v0 ∧ v0 ≤ ((9223372036854775807) : Int)) ∧ (((1) : Int) ≤ v1 ∧ v1 ≤ ((9223372036854775807) : Int)) ∧ True := hr
  replace hl : True := hl
  show jC_t.dn ⟨_, []⟩ 2 [v1, v0] 0 []
  rw [jC_vc]
  repeat' first | refine And.intro ?_ ?_ | intro _
  all_goals trivial)
end Go.Proofs.YtpmgfdakljjlaaaGreatDoor
