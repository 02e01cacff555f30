/- The executor: texts of it, one behind another. -/
import Derived.Test.YtbpilohnhhbbpaaGreatDoorL2Facts
import Derived.Test.YtbpilohnhhbbpaaGreatDoorSxM7
import Derived.Test.YtbpilohnhhbbpaaGreatDoorL2Al
set_option linter.unusedVariables false
set_option linter.constructorNameAsVariable false
/- Contracts: calls at closed states. -/
set_option linter.unusedVariables false
set_option linter.unusedSimpArgs false
open Go Go.Sx
namespace Go.Proofs.YtbpilohnhhbbpaaGreatDoor
set_option maxRecDepth 100000
noncomputable def aN1_t : Tree := .any (.c 1) (.c 9223372036854775807) (.any (.c 1) (.c 9223372036854775807) (.any (.c 2) (.c 9223372036854775807) (.done [.v 2, .v 0] [])))
theorem aN1_tree : (L2.aN1).exe Tryz.prog (L2.cfg Tryz.prog) [] 20 200 = aN1_t := by kernel_rfl
theorem aN1_vc (Q : List Int → List (List Int) → Prop) : aN1_t.dn ⟨Q, []⟩ 0 [] 0 [] = (∀ v0 : Int, (1 : Int) ≤ v0 → v0 ≤ (9223372036854775807 : Int) → ∀ v1 : Int, (1 : Int) ≤ v1 → v1 ≤ (9223372036854775807 : Int) → ∀ v2 : Int, (2 : Int) ≤ v2 → v2 ≤ (9223372036854775807 : Int) → Q [v2, v0] []) := by kernel_rfl
set_option maxHeartbeats 4000000 in
theorem aN1_holds : (L2.aN1).Holds Tryz.prog L2.ro := FSpec.holdsV (cfg := L2.cfg Tryz.prog) [] 20 200 cfg_ok mixed (t := aN1_t) aN1_tree (by
  show _ → _
  intro   hp hr hl
  replace hr : True := hr
  replace hl : True := hl
  show aN1_t.dn ⟨_, []⟩ 0 [] 0 []
  rw [aN1_vc]
  repeat' first | refine And.intro ?_ ?_ | intro _
  all_goals trivial)
noncomputable def aA1_0_t : Tree := .done [] []
theorem aA1_0_tree : (L2.aA1_0).exe Tryz.prog (L2.cfg Tryz.prog) [] 20 200 = aA1_0_t := by kernel_rfl
theorem aA1_0_vc (Q : List Int → List (List Int) → Prop) (v0 v1 : Int) : aA1_0_t.dn ⟨Q, []⟩ 2 [v1, v0] 0 [] = (Q [] []) := by kernel_rfl
set_option maxHeartbeats 4000000 in
theorem aA1_0_holds : (L2.aA1_0).Holds Tryz.prog L2.ro := FSpec.holdsV (cfg := L2.cfg Tryz.prog) [] 20 200 cfg_ok mixed (t := aA1_0_t) aA1_0_tree (by
  show ∀ (v0 v1 : Int) , _
  intro v0 v1  hp hr hl
  replace hr : (((2) : Int) ≤ v0 ∧ v0 ≤ ((9223372036854775807) : Int)) ∧ (((1) : Int) ≤ v1 ∧ v1 ≤ ((9223372036854775807) : Int)) ∧ True := hr
  replace hl : True := hl
  show aA1_0_t.dn ⟨_, []⟩ 2 [v1, v0] 0 []
  rw [aA1_0_vc]
  repeat' first | refine And.intro ?_ ?_ | intro _
  all_goals trivial)
noncomputable def aF1_t : Tree := .done [] []
theorem aF1_tree : (L2.aF1).exe Tryz.prog (L2.cfg Tryz.prog) [] 20 200 = aF1_t := by kernel_rfl
theorem aF1_vc (Q : List Int → List (List Int) → Prop) (v0 v1 : Int) : aF1_t.dn ⟨Q, []⟩ 2 [v1, v0] 0 [] = (Q [] []) := by kernel_rfl
set_option maxHeartbeats 4000000 in
theorem aF1_holds : (L2.aF1).Holds Tryz.prog L2.ro := FSpec.holdsV (cfg := L2.cfg Tryz.prog) [] 20 200 cfg_ok mixed (t := aF1_t) aF1_tree (by
  show ∀ (v0 v1 : Int) , _
  intro v0 v1  hp hr hl
  replace hr : (((2) : Int) ≤ v0 ∧ v0 ≤ ((9223372036854775807) : Int)) ∧ (((1) : Int) ≤ v1 ∧ v1 ≤ ((9223372036854775807) : Int)) ∧ True := hr
  replace hl : True := hl
  show aF1_t.dn ⟨_, []⟩ 2 [v1, v0] 0 []
  rw [aF1_vc]
  repeat' first | refine And.intro ?_ ?_ | intro _
  all_goals trivial)
noncomputable def aB1_t : Tree := .done [] []
theorem aB1_tree : (L2.aB1).exe Tryz.prog (L2.cfg Tryz.prog) [] 20 200 = aB1_t := by kernel_rfl
theorem aB1_vc (Q : List Int → List (List Int) → Prop) (v0 v1 : Int) : aB1_t.dn ⟨Q, []⟩ 2 [v1, v0] 0 [] = (Q [] []) := by kernel_rfl
set_option maxHeartbeats 4000000 in
theorem aB1_holds : (L2.aB1).Holds Tryz.prog L2.ro := FSpec.holdsV (cfg := L2.cfg Tryz.prog) [] 20 200 cfg_ok mixed (t := aB1_t) aB1_tree (by
  show ∀ (v0 v1 : Int) , _
  intro v0 v1  hp hr hl
  replace hr : (((2) : Int) ≤ v0 ∧ v0 ≤ ((9223372036854775807) : Int)) ∧ (((1) : Int) ≤ v1 ∧ v1 ≤ ((9223372036854775807) : Int)) ∧ True := hr
  replace hl : True := hl
  show aB1_t.dn ⟨_, []⟩ 2 [v1, v0] 0 []
  rw [aB1_vc]
  repeat' first | refine And.intro ?_ ?_ | intro _
  all_goals trivial)
noncomputable def aD1_0_t : Tree := .any (.c 1) (.c 9223372036854775807) (.letI (.mul (.v 2) (.c 2)) (.any (.c 1) (.c 9223372036854775807) (.letI (.mul (.v 4) (.c 2)) (.done [] []))))
theorem aD1_0_tree : (L2.aD1_0).exe Tryz.prog (L2.cfg Tryz.prog) [] 20 200 = aD1_0_t := by kernel_rfl
theorem aD1_0_vc (Q : List Int → List (List Int) → Prop) (v0 v1 : Int) : aD1_0_t.dn ⟨Q, []⟩ 2 [v1, v0] 0 [] = (∀ v2 : Int, (1 : Int) ≤ v2 → v2 ≤ (9223372036854775807 : Int) → ∀ v3 : Int, v3 = v2 * (2 : Int) → ∀ v4 : Int, (1 : Int) ≤ v4 → v4 ≤ (9223372036854775807 : Int) → ∀ v5 : Int, v5 = v4 * (2 : Int) → Q [] []) := by kernel_rfl
set_option maxHeartbeats 4000000 in
theorem aD1_0_holds : (L2.aD1_0).Holds Tryz.prog L2.ro := FSpec.holdsV (cfg := L2.cfg Tryz.prog) [] 20 200 cfg_ok mixed (t := aD1_0_t) aD1_0_tree (by
  show ∀ (v0 v1 : Int) , _
  intro v0 v1  hp hr hl
  replace hr : (((2) : Int) ≤ v0 ∧ v0 ≤ ((9223372036854775807) : Int)) ∧ (((1) : Int) ≤ v1 ∧ v1 ≤ ((9223372036854775807) : Int)) ∧ True := hr
  replace hl : True := hl
  show aD1_0_t.dn ⟨_, []⟩ 2 [v1, v0] 0 []
  rw [aD1_0_vc]
  repeat' first | refine And.intro ?_ ?_ | intro _
  all_goals trivial)
noncomputable def aR1_0_t : Tree := .done [] []
theorem aR1_0_tree : (L2.aR1_0).exe Tryz.prog (L2.cfg Tryz.prog) [] 20 200 = aR1_0_t := by kernel_rfl
theorem aR1_0_vc (Q : List Int → List (List Int) → Prop) (v0 v1 : Int) : aR1_0_t.dn ⟨Q, []⟩ 2 [v1, v0] 0 [] = (Q [] []) := by kernel_rfl
set_option maxHeartbeats 4000000 in
theorem aR1_0_holds : (L2.aR1_0).Holds Tryz.prog L2.ro := FSpec.holdsV (cfg := L2.cfg Tryz.prog) [] 20 200 cfg_ok mixed (t := aR1_0_t) aR1_0_tree (by
  show ∀ (v0 v1 : Int) , _
  intro v0 v1  hp hr hl
  replace hr : (((2) : Int) ≤ v0 ∧ v0 ≤ ((9223372036854775807) : Int)) ∧ (((1) : Int) ≤ v1 ∧ v1 ≤ ((9223372036854775807) : Int)) ∧ True := hr
  replace hl : True := hl
  show aR1_0_t.dn ⟨_, []⟩ 2 [v1, v0] 0 []
  rw [aR1_0_vc]
  repeat' first | refine And.intro ?_ ?_ | intro _
  all_goals trivial)
end Go.Proofs.YtbpilohnhhbbpaaGreatDoor
/- Contracts: calls at closed states. -/
set_option linter.unusedVariables false
set_option linter.unusedSimpArgs false
open Go Go.Sx
namespace Go.Proofs.YtbpilohnhhbbpaaGreatDoor
set_option maxRecDepth 100000
noncomputable def aN2_t : Tree := .any (.c 1) (.c 9223372036854775807) (.any (.c 2) (.c 9223372036854775807) (.any (.c 1) (.c 9223372036854775807) (.any (.c 2) (.c 9223372036854775807) (.done [.v 3, .v 1] []))))
theorem aN2_tree : (L2.aN2).exe Tryz.prog (L2.cfg Tryz.prog) [] 20 200 = aN2_t := by kernel_rfl
theorem aN2_vc (Q : List Int → List (List Int) → Prop) : aN2_t.dn ⟨Q, []⟩ 0 [] 0 [] = (∀ v0 : Int, (1 : Int) ≤ v0 → v0 ≤ (9223372036854775807 : Int) → ∀ v1 : Int, (2 : Int) ≤ v1 → v1 ≤ (9223372036854775807 : Int) → ∀ v2 : Int, (1 : Int) ≤ v2 → v2 ≤ (9223372036854775807 : Int) → ∀ v3 : Int, (2 : Int) ≤ v3 → v3 ≤ (9223372036854775807 : Int) → Q [v3, v1] []) := by kernel_rfl
set_option maxHeartbeats 4000000 in
theorem aN2_holds : (L2.aN2).Holds Tryz.prog L2.ro := FSpec.holdsV (cfg := L2.cfg Tryz.prog) [] 20 200 cfg_ok mixed (t := aN2_t) aN2_tree (by
  show _ → _
  intro   hp hr hl
  replace hr : True := hr
  replace hl : True := hl
  show aN2_t.dn ⟨_, []⟩ 0 [] 0 []
  rw [aN2_vc]
  repeat' first | refine And.intro ?_ ?_ | intro _
  all_goals trivial)
noncomputable def aA2_0_t : Tree := .done [] []
theorem aA2_0_tree : (L2.aA2_0).exe Tryz.prog (L2.cfg Tryz.prog) [] 20 200 = aA2_0_t := by kernel_rfl
theorem aA2_0_vc (Q : List Int → List (List Int) → Prop) (v0 v1 : Int) : aA2_0_t.dn ⟨Q, []⟩ 2 [v1, v0] 0 [] = (Q [] []) := by kernel_rfl
set_option maxHeartbeats 4000000 in
theorem aA2_0_holds : (L2.aA2_0).Holds Tryz.prog L2.ro := FSpec.holdsV (cfg := L2.cfg Tryz.prog) [] 20 200 cfg_ok mixed (t := aA2_0_t) aA2_0_tree (by
  show ∀ (v0 v1 : Int) , _
  intro v0 v1  hp hr hl
  replace hr : (((2) : Int) ≤ v0 ∧ v0 ≤ ((9223372036854775807) : Int)) ∧ (((2) : Int) ≤ v1 ∧ v1 ≤ ((9223372036854775807) : Int)) ∧ True := hr
  replace hl : True := hl
  show aA2_0_t.dn ⟨_, []⟩ 2 [v1, v0] 0 []
  rw [aA2_0_vc]
  repeat' first | refine And.intro ?_ ?_ | intro _
  all_goals trivial)
noncomputable def aA2_1_t : Tree := .done [] []
theorem aA2_1_tree : (L2.aA2_1).exe Tryz.prog (L2.cfg Tryz.prog) [] 20 200 = aA2_1_t := by kernel_rfl
theorem aA2_1_vc (Q : List Int → List (List Int) → Prop) (v0 v1 : Int) : aA2_1_t.dn ⟨Q, []⟩ 2 [v1, v0] 0 [] = (Q [] []) := by kernel_rfl
set_option maxHeartbeats 4000000 in
theorem aA2_1_holds : (L2.aA2_1).Holds Tryz.prog L2.ro := FSpec.holdsV (cfg := L2.cfg Tryz.prog) [] 20 200 cfg_ok mixed (t := aA2_1_t) aA2_1_tree (by
  show ∀ (v0 v1 : Int) , _
  intro v0 v1  hp hr hl
  replace hr : (((2) : Int) ≤ v0 ∧ v0 ≤ ((9223372036854775807) : Int)) ∧ (((2) : Int) ≤ v1 ∧ v1 ≤ ((9223372036854775807) : Int)) ∧ True := hr
  replace hl : True := hl
  show aA2_1_t.dn ⟨_, []⟩ 2 [v1, v0] 0 []
  rw [aA2_1_vc]
  repeat' first | refine And.intro ?_ ?_ | intro _
  all_goals trivial)
noncomputable def aF2_t : Tree := .done [] []
theorem aF2_tree : (L2.aF2).exe Tryz.prog (L2.cfg Tryz.prog) [] 20 200 = aF2_t := by kernel_rfl
theorem aF2_vc (Q : List Int → List (List Int) → Prop) (v0 v1 : Int) : aF2_t.dn ⟨Q, []⟩ 2 [v1, v0] 0 [] = (Q [] []) := by kernel_rfl
set_option maxHeartbeats 4000000 in
theorem aF2_holds : (L2.aF2).Holds Tryz.prog L2.ro := FSpec.holdsV (cfg := L2.cfg Tryz.prog) [] 20 200 cfg_ok mixed (t := aF2_t) aF2_tree (by
  show ∀ (v0 v1 : Int) , _
  intro v0 v1  hp hr hl
  replace hr : (((2) : Int) ≤ v0 ∧ v0 ≤ ((9223372036854775807) : Int)) ∧ (((2) : Int) ≤ v1 ∧ v1 ≤ ((9223372036854775807) : Int)) ∧ True := hr
  replace hl : True := hl
  show aF2_t.dn ⟨_, []⟩ 2 [v1, v0] 0 []
  rw [aF2_vc]
  repeat' first | refine And.intro ?_ ?_ | intro _
  all_goals trivial)
noncomputable def aB2_t : Tree := .done [] []
theorem aB2_tree : (L2.aB2).exe Tryz.prog (L2.cfg Tryz.prog) [] 20 200 = aB2_t := by kernel_rfl
theorem aB2_vc (Q : List Int → List (List Int) → Prop) (v0 v1 : Int) : aB2_t.dn ⟨Q, []⟩ 2 [v1, v0] 0 [] = (Q [] []) := by kernel_rfl
set_option maxHeartbeats 4000000 in
theorem aB2_holds : (L2.aB2).Holds Tryz.prog L2.ro := FSpec.holdsV (cfg := L2.cfg Tryz.prog) [] 20 200 cfg_ok mixed (t := aB2_t) aB2_tree (by
  show ∀ (v0 v1 : Int) , _
  intro v0 v1  hp hr hl
  replace hr : (((2) : Int) ≤ v0 ∧ v0 ≤ ((9223372036854775807) : Int)) ∧ (((2) : Int) ≤ v1 ∧ v1 ≤ ((9223372036854775807) : Int)) ∧ True := hr
  replace hl : True := hl
  show aB2_t.dn ⟨_, []⟩ 2 [v1, v0] 0 []
  rw [aB2_vc]
  repeat' first | refine And.intro ?_ ?_ | intro _
  all_goals trivial)
noncomputable def aD2_0_t : Tree := .any (.c 1) (.c 9223372036854775807) (.letI (.mul (.v 2) (.c 2)) (.any (.c 1) (.c 9223372036854775807) (.letI (.mul (.v 4) (.c 2)) (.done [] []))))
theorem aD2_0_tree : (L2.aD2_0).exe Tryz.prog (L2.cfg Tryz.prog) [] 20 200 = aD2_0_t := by kernel_rfl
theorem aD2_0_vc (Q : List Int → List (List Int) → Prop) (v0 v1 : Int) : aD2_0_t.dn ⟨Q, []⟩ 2 [v1, v0] 0 [] = (∀ v2 : Int, (1 : Int) ≤ v2 → v2 ≤ (9223372036854775807 : Int) → ∀ v3 : Int, v3 = v2 * (2 : Int) → ∀ v4 : Int, (1 : Int) ≤ v4 → v4 ≤ (9223372036854775807 : Int) → ∀ v5 : Int, v5 = v4 * (2 : Int) → Q [] []) := by kernel_rfl
set_option maxHeartbeats 4000000 in
theorem aD2_0_holds : (L2.aD2_0).Holds Tryz.prog L2.ro := FSpec.holdsV (cfg := L2.cfg Tryz.prog) [] 20 200 cfg_ok mixed (t := aD2_0_t) aD2_0_tree (by
  show ∀ (v0 v1 : Int) , _
  intro v0 v1  hp hr hl
  replace hr : (((2) : Int) ≤ v0 ∧ v0 ≤ ((9223372036854775807) : Int)) ∧ (((2) : Int) ≤ v1 ∧ v1 ≤ ((9223372036854775807) : Int)) ∧ True := hr
  replace hl : True := hl
  show aD2_0_t.dn ⟨_, []⟩ 2 [v1, v0] 0 []
  rw [aD2_0_vc]
  repeat' first | refine And.intro ?_ ?_ | intro _
  all_goals trivial)
noncomputable def aR2_0_t : Tree := .done [] []
theorem aR2_0_tree : (L2.aR2_0).exe Tryz.prog (L2.cfg Tryz.prog) [] 20 200 = aR2_0_t := by kernel_rfl
theorem aR2_0_vc (Q : List Int → List (List Int) → Prop) (v0 v1 : Int) : aR2_0_t.dn ⟨Q, []⟩ 2 [v1, v0] 0 [] = (Q [] []) := by kernel_rfl
set_option maxHeartbeats 4000000 in
theorem aR2_0_holds : (L2.aR2_0).Holds Tryz.prog L2.ro := FSpec.holdsV (cfg := L2.cfg Tryz.prog) [] 20 200 cfg_ok mixed (t := aR2_0_t) aR2_0_tree (by
  show ∀ (v0 v1 : Int) , _
  intro v0 v1  hp hr hl
  replace hr : (((2) : Int) ≤ v0 ∧ v0 ≤ ((9223372036854775807) : Int)) ∧ (((2) : Int) ≤ v1 ∧ v1 ≤ ((9223372036854775807) : Int)) ∧ True := hr
  replace hl : True := hl
  show aR2_0_t.dn ⟨_, []⟩ 2 [v1, v0] 0 []
  rw [aR2_0_vc]
  repeat' first | refine And.intro ?_ ?_ | intro _
  all_goals trivial)
noncomputable def aD2_1_t : Tree := .any (.c 1) (.c 9223372036854775807) (.letI (.mul (.v 2) (.c 2)) (.any (.c 1) (.c 9223372036854775807) (.letI (.mul (.v 4) (.c 2)) (.done [] []))))
theorem aD2_1_tree : (L2.aD2_1).exe Tryz.prog (L2.cfg Tryz.prog) [] 20 200 = aD2_1_t := by kernel_rfl
theorem aD2_1_vc (Q : List Int → List (List Int) → Prop) (v0 v1 : Int) : aD2_1_t.dn ⟨Q, []⟩ 2 [v1, v0] 0 [] = (∀ v2 : Int, (1 : Int) ≤ v2 → v2 ≤ (9223372036854775807 : Int) → ∀ v3 : Int, v3 = v2 * (2 : Int) → ∀ v4 : Int, (1 : Int) ≤ v4 → v4 ≤ (9223372036854775807 : Int) → ∀ v5 : Int, v5 = v4 * (2 : Int) → Q [] []) := by kernel_rfl
set_option maxHeartbeats 4000000 in
theorem aD2_1_holds : (L2.aD2_1).Holds Tryz.prog L2.ro := FSpec.holdsV (cfg := L2.cfg Tryz.prog) [] 20 200 cfg_ok mixed (t := aD2_1_t) aD2_1_tree (by
  show ∀ (v0 v1 : Int) , _
  intro v0 v1  hp hr hl
  replace hr : (((2) : Int) ≤ v0 ∧ v0 ≤ ((9223372036854775807) : Int)) ∧ (((2) : Int) ≤ v1 ∧ v1 ≤ ((9223372036854775807) : Int)) ∧ True := hr
  replace hl : True := hl
  show aD2_1_t.dn ⟨_, []⟩ 2 [v1, v0] 0 []
  rw [aD2_1_vc]
  repeat' first | refine And.intro ?_ ?_ | intro _
  all_goals trivial)
noncomputable def aR2_1_t : Tree := .done [] []
theorem aR2_1_tree : (L2.aR2_1).exe Tryz.prog (L2.cfg Tryz.prog) [] 20 200 = aR2_1_t := by kernel_rfl
theorem aR2_1_vc (Q : List Int → List (List Int) → Prop) (v0 v1 : Int) : aR2_1_t.dn ⟨Q, []⟩ 2 [v1, v0] 0 [] = (Q [] []) := by kernel_rfl
set_option maxHeartbeats 4000000 in
theorem aR2_1_holds : (L2.aR2_1).Holds Tryz.prog L2.ro := FSpec.holdsV (cfg := L2.cfg Tryz.prog) [] 20 200 cfg_ok mixed (t := aR2_1_t) aR2_1_tree (by
  show ∀ (v0 v1 : Int) , _
  intro v0 v1  hp hr hl
  replace hr : (((2) : Int) ≤ v0 ∧ v0 ≤ ((9223372036854775807) : Int)) ∧ (((2) : Int) ≤ v1 ∧ v1 ≤ ((9223372036854775807) : Int)) ∧ True := hr
  replace hl : True := hl
  show aR2_1_t.dn ⟨_, []⟩ 2 [v1, v0] 0 []
  rw [aR2_1_vc]
  repeat' first | refine And.intro ?_ ?_ | intro _
  all_goals trivial)
end Go.Proofs.YtbpilohnhhbbpaaGreatDoor
