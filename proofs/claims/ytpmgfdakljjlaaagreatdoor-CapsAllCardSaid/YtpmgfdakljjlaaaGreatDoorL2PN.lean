/- The executor: texts of it, one behind another. -/
import Derived.Test.YtpmgfdakljjlaaaGreatDoorL2Facts
import Derived.Test.YtpmgfdakljjlaaaGreatDoorSxM7
import Derived.Test.YtpmgfdakljjlaaaGreatDoorL2P
set_option linter.unusedVariables false
set_option linter.constructorNameAsVariable false
/- Contract: a kernel's call. -/
set_option linter.unusedVariables false
set_option linter.unusedSimpArgs false
open Go Go.Sx
namespace Go.Proofs.YtpmgfdakljjlaaaGreatDoor
set_option maxRecDepth 100000
noncomputable def pDoA_t : Tree := .done [] []
theorem pDoA_tree : (L2.pDoA).exe Tryz.prog (L2.cfg Tryz.prog) [] 20 200 = pDoA_t := by kernel_rfl
theorem pDoA_vc (Q : List Int → List (List Int) → Prop) (v0 v1 : Int) : pDoA_t.dn ⟨Q, []⟩ 2 [v1, v0] 0 [] = (Q [] []) := by kernel_rfl
set_option maxHeartbeats 4000000 in
theorem pDoA_holds : (L2.pDoA).Holds Tryz.prog L2.ro := FSpec.holdsV (cfg := L2.cfg Tryz.prog) [] 20 200 cfg_ok mixed (t := pDoA_t) pDoA_tree (by
  show ∀ (v0 v1 : Int) , _
  intro v0 v1  hp hr hl
  replace hr : (((2) : Int) ≤ v0 ∧ v0 ≤ ((9223372036854775807) : Int)) ∧ (((2) : Int) ≤ v1 ∧ v1 ≤ ((9223372036854775807) : Int)) ∧ True := hr
  replace hl : True := hl
  show pDoA_t.dn ⟨_, []⟩ 2 [v1, v0] 0 []
  rw [pDoA_vc]
  repeat' first | refine And.intro ?_ ?_ | intro _
  all_goals trivial)
end Go.Proofs.YtpmgfdakljjlaaaGreatDoor
/- Contract: a kernel's call. -/
set_option linter.unusedVariables false
set_option linter.unusedSimpArgs false
open Go Go.Sx
namespace Go.Proofs.YtpmgfdakljjlaaaGreatDoor
set_option maxRecDepth 100000
noncomputable def pDoB_t : Tree := .done [] []
theorem pDoB_tree : (L2.pDoB).exe Tryz.prog (L2.cfg Tryz.prog) [] 20 200 = pDoB_t := by kernel_rfl
theorem pDoB_vc (Q : List Int → List (List Int) → Prop) (v0 v1 : Int) : pDoB_t.dn ⟨Q, []⟩ 2 [v1, v0] 0 [] = (Q [] []) := by kernel_rfl
set_option maxHeartbeats 4000000 in
theorem pDoB_holds : (L2.pDoB).Holds Tryz.prog L2.ro := FSpec.holdsV (cfg := L2.cfg Tryz.prog) [] 20 200 cfg_ok mixed (t := pDoB_t) pDoB_tree (by
  show ∀ (v0 v1 : Int) , _
  intro v0 v1  hp hr hl
  replace hr : (((2) : Int) ≤ v0 ∧ v0 ≤ ((9223372036854775807) : Int)) ∧ (((2) : Int) ≤ v1 ∧ v1 ≤ ((9223372036854775807) : Int)) ∧ True := hr
  replace hl : True := hl
  show pDoB_t.dn ⟨_, []⟩ 2 [v1, v0] 0 []
  rw [pDoB_vc]
  repeat' first | refine And.intro ?_ ?_ | intro _
  all_goals trivial)
end Go.Proofs.YtpmgfdakljjlaaaGreatDoor
/- Contract: a kernel's call. -/
set_option linter.unusedVariables false
set_option linter.unusedSimpArgs false
open Go Go.Sx
namespace Go.Proofs.YtpmgfdakljjlaaaGreatDoor
set_option maxRecDepth 100000
noncomputable def pDoC_t : Tree := .both (.done [] []) (.done [] [])
theorem pDoC_tree : (L2.pDoC).exe Tryz.prog (L2.cfg Tryz.prog) [] 20 200 = pDoC_t := by kernel_rfl
theorem pDoC_vc (Q : List Int → List (List Int) → Prop) (v0 v1 : Int) : pDoC_t.dn ⟨Q, []⟩ 2 [v1, v0] 0 [] = ((Q [] []) ∧
(Q [] [])) := by kernel_rfl
set_option maxHeartbeats 4000000 in
theorem pDoC_holds : (L2.pDoC).Holds Tryz.prog L2.ro := FSpec.holdsV (cfg := L2.cfg Tryz.prog) [] 20 200 cfg_ok mixed (t := pDoC_t) pDoC_tree (by
  show ∀ (v0 v1 : Int) , _
  intro v0 v1  hp hr hl
  replace hr : (((2) : Int) ≤ v0 ∧ v0 ≤ ((9223372036854775807) : Int)) ∧ (((2) : Int) ≤ v1 ∧ v1 ≤ ((9223372036854775807) : Int)) ∧ True := hr
  replace hl : True := hl
  show pDoC_t.dn ⟨_, []⟩ 2 [v1, v0] 0 []
  rw [pDoC_vc]
  repeat' first | refine And.intro ?_ ?_ | intro _
  all_goals trivial)
end Go.Proofs.YtpmgfdakljjlaaaGreatDoor
/- Contract: a kernel's call. -/
set_option linter.unusedVariables false
set_option linter.unusedSimpArgs false
open Go Go.Sx
namespace Go.Proofs.YtpmgfdakljjlaaaGreatDoor
set_option maxRecDepth 100000
noncomputable def pDoD_t : Tree := .both (.done [] []) (.done [] [])
theorem pDoD_tree : (L2.pDoD).exe Tryz.prog (L2.cfg Tryz.prog) [] 20 200 = pDoD_t := by kernel_rfl
theorem pDoD_vc (Q : List Int → List (List Int) → Prop) (v0 v1 : Int) : pDoD_t.dn ⟨Q, []⟩ 2 [v1, v0] 0 [] = ((Q [] []) ∧
(Q [] [])) := by kernel_rfl
set_option maxHeartbeats 4000000 in
theorem pDoD_holds : (L2.pDoD).Holds Tryz.prog L2.ro := FSpec.holdsV (cfg := L2.cfg Tryz.prog) [] 20 200 cfg_ok mixed (t := pDoD_t) pDoD_tree (by
  show ∀ (v0 v1 : Int) , _
  intro v0 v1  hp hr hl
  replace hr : (((2) : Int) ≤ v0 ∧ v0 ≤ ((9223372036854775807) : Int)) ∧ (((2) : Int) ≤ v1 ∧ v1 ≤ ((9223372036854775807) : Int)) ∧ True := hr
  replace hl : True := hl
  show pDoD_t.dn ⟨_, []⟩ 2 [v1, v0] 0 []
  rw [pDoD_vc]
  repeat' first | refine And.intro ?_ ?_ | intro _
  all_goals trivial)
end Go.Proofs.YtpmgfdakljjlaaaGreatDoor
/- Contract: a load. -/
set_option linter.unusedVariables false
set_option linter.unusedSimpArgs false
open Go Go.Sx
namespace Go.Proofs.YtpmgfdakljjlaaaGreatDoor
set_option maxRecDepth 100000
noncomputable def uDo1_t : Tree := .done [] []
theorem uDo1_tree : (L2.uDo1).exe Tryz.prog (L2.cfg Tryz.prog) [] 20 200 = uDo1_t := by kernel_rfl
theorem uDo1_vc (Q : List Int → List (List Int) → Prop) (v0 : Int) : uDo1_t.dn ⟨Q, []⟩ 1 [v0] 0 [] = (Q [] []) := by kernel_rfl
set_option maxHeartbeats 4000000 in
theorem uDo1_holds : (L2.uDo1).Holds Tryz.prog L2.ro := FSpec.holdsV (cfg := L2.cfg Tryz.prog) [] 20 200 cfg_ok mixed (t := uDo1_t) uDo1_tree (by
  show ∀ (v0 : Int) , _
  intro v0  hp hr hl
  replace hr : (((2) : Int) ≤ v0 ∧ v0 ≤ ((9223372036854775807) : Int)) ∧ True := hr
  replace hl : True := hl
  show uDo1_t.dn ⟨_, []⟩ 1 [v0] 0 []
  rw [uDo1_vc]
  repeat' first | refine And.intro ?_ ?_ | intro _
  all_goals trivial)
end Go.Proofs.YtpmgfdakljjlaaaGreatDoor
