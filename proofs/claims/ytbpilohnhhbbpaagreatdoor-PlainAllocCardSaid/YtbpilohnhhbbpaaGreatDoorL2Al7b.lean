/- Contracts: calls at closed states. -/
import Derived.Test.YtbpilohnhhbbpaaGreatDoorL2Facts
import Derived.Test.YtbpilohnhhbbpaaGreatDoorSxM7
import Derived.Test.YtbpilohnhhbbpaaGreatDoorL2Al
set_option linter.unusedVariables false
set_option linter.constructorNameAsVariable false
set_option linter.unusedSimpArgs false
open Go Go.Sx
namespace Go.Proofs.YtbpilohnhhbbpaaGreatDoor
set_option maxRecDepth 100000
noncomputable def aB7_t : Tree := .done [] []
theorem aB7_tree : (L2.aB7).exe Tryz.prog (L2.cfg Tryz.prog) [] 20 200 = aB7_t := by kernel_rfl
theorem aB7_vc (Q : List Int → List (List Int) → Prop) (v0 v1 : Int) : aB7_t.dn ⟨Q, []⟩ 2 [v1, v0] 0 [] = (Q [] []) := by kernel_rfl
set_option maxHeartbeats 4000000 in
theorem aB7_holds : (L2.aB7).Holds Tryz.prog L2.ro := FSpec.holdsV (cfg := L2.cfg Tryz.prog) [] 20 200 cfg_ok mixed (t := aB7_t) aB7_tree (by
  show ∀ (v0 v1 : Int) , _
  intro v0 v1  hp hr hl
  replace hr : (((2) : Int) ≤ v0 ∧ v0 ≤ ((9223372036854775807) : Int)) ∧ (((7) : Int) ≤ v1 ∧ v1 ≤ ((9223372036854775807) : Int)) ∧ True := hr
  replace hl : True := hl
  show aB7_t.dn ⟨_, []⟩ 2 [v1, v0] 0 []
  rw [aB7_vc]
  repeat' first | refine And.intro ?_ ?_ | intro _
  all_goals trivial)
noncomputable def aD7_0_t : Tree := .any (.c 1) (.c 9223372036854775807) (.letI (.mul (.v 2) (.c 2)) (.any (.c 1) (.c 9223372036854775807) (.letI (.mul (.v 4) (.c 2)) (.done [] []))))
theorem aD7_0_tree : (L2.aD7_0).exe Tryz.prog (L2.cfg Tryz.prog) [] 20 200 = aD7_0_t := by kernel_rfl
theorem aD7_0_vc (Q : List Int → List (List Int) → Prop) (v0 v1 : Int) : aD7_0_t.dn ⟨Q, []⟩ 2 [v1, v0] 0 [] = (∀ v2 : Int, (1 : Int) ≤ v2 → v2 ≤ (9223372036854775807 : Int) → ∀ v3 : Int, v3 = v2 * (2 : Int) → ∀ v4 : Int, (1 : Int) ≤ v4 → v4 ≤ (9223372036854775807 : Int) → ∀ v5 : Int, v5 = v4 * (2 : Int) → Q [] []) := by kernel_rfl
set_option maxHeartbeats 4000000 in
theorem aD7_0_holds : (L2.aD7_0).Holds Tryz.prog L2.ro := FSpec.holdsV (cfg := L2.cfg Tryz.prog) [] 20 200 cfg_ok mixed (t := aD7_0_t) aD7_0_tree (by
  show ∀ (v0 v1 : Int) , _
  intro v0 v1  hp hr hl
  replace hr : (((2) : Int) ≤ v0 ∧ v0 ≤ ((9223372036854775807) : Int)) ∧ (((7) : Int) ≤ v1 ∧ v1 ≤ ((9223372036854775807) : Int)) ∧ True := hr
  replace hl : True := hl
  show aD7_0_t.dn ⟨_, []⟩ 2 [v1, v0] 0 []
  rw [aD7_0_vc]
  repeat' first | refine And.intro ?_ ?_ | intro _
  all_goals trivial)
noncomputable def aR7_0_t : Tree := .done [] []
theorem aR7_0_tree : (L2.aR7_0).exe Tryz.prog (L2.cfg Tryz.prog) [] 20 200 = aR7_0_t := by kernel_rfl
theorem aR7_0_vc (Q : List Int → List (List Int) → Prop) (v0 v1 : Int) : aR7_0_t.dn ⟨Q, []⟩ 2 [v1, v0] 0 [] = (Q [] []) := by kernel_rfl
set_option maxHeartbeats 4000000 in
theorem aR7_0_holds : (L2.aR7_0).Holds Tryz.prog L2.ro := FSpec.holdsV (cfg := L2.cfg Tryz.prog) [] 20 200 cfg_ok mixed (t := aR7_0_t) aR7_0_tree (by
  show ∀ (v0 v1 : Int) , _
  intro v0 v1  hp hr hl
  replace hr : (((2) : Int) ≤ v0 ∧ v0 ≤ ((9223372036854775807) : Int)) ∧ (((7) : Int) ≤ v1 ∧ v1 ≤ ((9223372036854775807) : Int)) ∧ True := hr
  replace hl : True := hl
  show aR7_0_t.dn ⟨_, []⟩ 2 [v1, v0] 0 []
  rw [aR7_0_vc]
  repeat' first | refine And.intro ?_ ?_ | intro _
  all_goals trivial)
noncomputable def aD7_1_t : Tree := .any (.c 1) (.c 9223372036854775807) (.letI (.mul (.v 2) (.c 2)) (.any (.c 1) (.c 9223372036854775807) (.letI (.mul (.v 4) (.c 2)) (.done [] []))))
theorem aD7_1_tree : (L2.aD7_1).exe Tryz.prog (L2.cfg Tryz.prog) [] 20 200 = aD7_1_t := by kernel_rfl
theorem aD7_1_vc (Q : List Int → List (List Int) → Prop) (v0 v1 : Int) : aD7_1_t.dn ⟨Q, []⟩ 2 [v1, v0] 0 [] = (∀ v2 : Int, (1 : Int) ≤ v2 → v2 ≤ (9223372036854775807 : Int) → ∀ v3 : Int, v3 = v2 * (2 : Int) → ∀ v4 : Int, (1 : Int) ≤ v4 → v4 ≤ (9223372036854775807 : Int) → ∀ v5 : Int, v5 = v4 * (2 : Int) → Q [] []) := by kernel_rfl
set_option maxHeartbeats 4000000 in
theorem aD7_1_holds : (L2.aD7_1).Holds Tryz.prog L2.ro := FSpec.holdsV (cfg := L2.cfg Tryz.prog) [] 20 200 cfg_ok mixed (t := aD7_1_t) aD7_1_tree (by
  show ∀ (v0 v1 : Int) , _
  intro v0 v1  hp hr hl
  replace hr : (((2) : Int) ≤ v0 ∧ v0 ≤ ((9223372036854775807) : Int)) ∧ (((7) : Int) ≤ v1 ∧ v1 ≤ ((9223372036854775807) : Int)) ∧ True := hr
  replace hl : True := hl
  show aD7_1_t.dn ⟨_, []⟩ 2 [v1, v0] 0 []
  rw [aD7_1_vc]
  repeat' first | refine And.intro ?_ ?_ | intro _
  all_goals trivial)
noncomputable def aR7_1_t : Tree := .done [] []
theorem aR7_1_tree : (L2.aR7_1).exe Tryz.prog (L2.cfg Tryz.prog) [] 20 200 = aR7_1_t := by kernel_rfl
theorem aR7_1_vc (Q : List Int → List (List Int) → Prop) (v0 v1 : Int) : aR7_1_t.dn ⟨Q, []⟩ 2 [v1, v0] 0 [] = (Q [] []) := by kernel_rfl
set_option maxHeartbeats 4000000 in
theorem aR7_1_holds : (L2.aR7_1).Holds Tryz.prog L2.ro := FSpec.holdsV (cfg := L2.cfg Tryz.prog) [] 20 200 cfg_ok mixed (t := aR7_1_t) aR7_1_tree (by
  show ∀ (v0 v1 : Int) , _
  intro v0 v1  hp hr hl
  replace hr : (((2) : Int) ≤ v0 ∧ v0 ≤ ((9223372036854775807) : Int)) ∧ (((7) : Int) ≤ v1 ∧ v1 ≤ ((9223372036854775807) : Int)) ∧ True := hr
  replace hl : True := hl
  show aR7_1_t.dn ⟨_, []⟩ 2 [v1, v0] 0 []
  rw [aR7_1_vc]
  repeat' first | refine And.intro ?_ ?_ | intro _
  all_goals trivial)
noncomputable def aD7_2_t : Tree := .any (.c 1) (.c 9223372036854775807) (.letI (.mul (.v 2) (.c 2)) (.any (.c 1) (.c 9223372036854775807) (.letI (.mul (.v 4) (.c 2)) (.done [] []))))
theorem aD7_2_tree : (L2.aD7_2).exe Tryz.prog (L2.cfg Tryz.prog) [] 20 200 = aD7_2_t := by kernel_rfl
theorem aD7_2_vc (Q : List Int → List (List Int) → Prop) (v0 v1 : Int) : aD7_2_t.dn ⟨Q, []⟩ 2 [v1, v0] 0 [] = (∀ v2 : Int, (1 : Int) ≤ v2 → v2 ≤ (9223372036854775807 : Int) → ∀ v3 : Int, v3 = v2 * (2 : Int) → ∀ v4 : Int, (1 : Int) ≤ v4 → v4 ≤ (9223372036854775807 : Int) → ∀ v5 : Int, v5 = v4 * (2 : Int) → Q [] []) := by kernel_rfl
set_option maxHeartbeats 4000000 in
theorem aD7_2_holds : (L2.aD7_2).Holds Tryz.prog L2.ro := FSpec.holdsV (cfg := L2.cfg Tryz.prog) [] 20 200 cfg_ok mixed (t := aD7_2_t) aD7_2_tree (by
  show ∀ (v0 v1 : Int) , _
  intro v0 v1  hp hr hl
  replace hr : (((2) : Int) ≤ v0 ∧ v0 ≤ ((9223372036854775807) : Int)) ∧ (((7) : Int) ≤ v1 ∧ v1 ≤ ((9223372036854775807) : Int)) ∧ True := hr
  replace hl : True := hl
  show aD7_2_t.dn ⟨_, []⟩ 2 [v1, v0] 0 []
  rw [aD7_2_vc]
  repeat' first | refine And.intro ?_ ?_ | intro _
  all_goals trivial)
noncomputable def aR7_2_t : Tree := .done [] []
theorem aR7_2_tree : (L2.aR7_2).exe Tryz.prog (L2.cfg Tryz.prog) [] 20 200 = aR7_2_t := by kernel_rfl
theorem aR7_2_vc (Q : List Int → List (List Int) → Prop) (v0 v1 : Int) : aR7_2_t.dn ⟨Q, []⟩ 2 [v1, v0] 0 [] = (Q [] []) := by kernel_rfl
set_option maxHeartbeats 4000000 in
theorem aR7_2_holds : (L2.aR7_2).Holds Tryz.prog L2.ro := FSpec.holdsV (cfg := L2.cfg Tryz.prog) [] 20 200 cfg_ok mixed (t := aR7_2_t) aR7_2_tree (by
  show ∀ (v0 v1 : Int) , _
  intro v0 v1  hp hr hl
  replace hr : (((2) : Int) ≤ v0 ∧ v0 ≤ ((9223372036854775807) : Int)) ∧ (((7) : Int) ≤ v1 ∧ v1 ≤ ((9223372036854775807) : Int)) ∧ True := hr
  replace hl : True := hl
  show aR7_2_t.dn ⟨_, []⟩ 2 [v1, v0] 0 []
  rw [aR7_2_vc]
  repeat' first | refine And.intro ?_ ?_ | intro _
  all_goals trivial)
noncomputable def aD7_3_t : Tree := .any (.c 1) (.c 9223372036854775807) (.letI (.mul (.v 2) (.c 2)) (.any (.c 1) (.c 9223372036854775807) (.letI (.mul (.v 4) (.c 2)) (.done [] []))))
theorem aD7_3_tree : (L2.aD7_3).exe Tryz.prog (L2.cfg Tryz.prog) [] 20 200 = aD7_3_t := by kernel_rfl
theorem aD7_3_vc (Q : List Int → List (List Int) → Prop) (v0 v1 : Int) : aD7_3_t.dn ⟨Q, []⟩ 2 [v1, v0] 0 [] = (∀ v2 : Int, (1 : Int) ≤ v2 → v2 ≤ (9223372036854775807 : Int) → ∀ v3 : Int, v3 = v2 * (2 : Int) → ∀ v4 : Int, (1 : Int) ≤ v4 → v4 ≤ (9223372036854775807 : Int) → ∀ v5 : Int, v5 = v4 * (2 : Int) → Q [] []) := by kernel_rfl
set_option maxHeartbeats 4000000 in
theorem aD7_3_holds : (L2.aD7_3).Holds Tryz.prog L2.ro := FSpec.holdsV (cfg := L2.cfg Tryz.prog) [] 20 200 cfg_ok mixed (t := aD7_3_t) aD7_3_tree (by
  show ∀ (v0 v1 : Int) , _
  intro v0 v1  hp hr hl
  replace hr : (((2) : Int) ≤ v0 ∧ v0 ≤ ((9223372036854775807) : Int)) ∧ (((7) : Int) ≤ v1 ∧ v1 ≤ ((9223372036854775807) : Int)) ∧ True := hr
  replace hl : True := hl
  show aD7_3_t.dn ⟨_, []⟩ 2 [v1, v0] 0 []
  rw [aD7_3_vc]
  repeat' first | refine And.intro ?_ ?_ | intro _
  all_goals trivial)
noncomputable def aR7_3_t : Tree := .done [] []
theorem aR7_3_tree : (L2.aR7_3).exe Tryz.prog (L2.cfg Tryz.prog) [] 20 200 = aR7_3_t := by kernel_rfl
theorem aR7_3_vc (Q : List Int → List (List Int) → Prop) (v0 v1 : Int) : aR7_3_t.dn ⟨Q, []⟩ 2 [v1, v0] 0 [] = (Q [] []) := by kernel_rfl
set_option maxHeartbeats 4000000 in
theorem aR7_3_holds : (L2.aR7_3).Holds Tryz.prog L2.ro := FSpec.holdsV (cfg := L2.cfg Tryz.prog) [] 20 200 cfg_ok mixed (t := aR7_3_t) aR7_3_tree (by
  show ∀ (v0 v1 : Int) , _
  intro v0 v1  hp hr hl
  replace hr : (((2) : Int) ≤ v0 ∧ v0 ≤ ((9223372036854775807) : Int)) ∧ (((7) : Int) ≤ v1 ∧ v1 ≤ ((9223372036854775807) : Int)) ∧ True := hr
  replace hl : True := hl
  show aR7_3_t.dn ⟨_, []⟩ 2 [v1, v0] 0 []
  rw [aR7_3_vc]
  repeat' first | refine And.intro ?_ ?_ | intro _
  all_goals trivial)
end Go.Proofs.YtbpilohnhhbbpaaGreatDoor
