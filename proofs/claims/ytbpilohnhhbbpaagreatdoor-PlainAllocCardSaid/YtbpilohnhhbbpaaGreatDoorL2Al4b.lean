/- Contracts: calls at closed states. -/
import Derived.Test.YtbpilohnhhbbpaaGreatDoorL2Facts
import Derived.Test.YtbpilohnhhbbpaaGreatDoorSxM7
import Derived.Test.YtbpilohnhhbbpaaGreatDoorL2Al
set_option linter.unusedVariables false
set_option linter.constructorNameAsVariable false
set_option linter.unusedSimpArgs false
open Go Go.Sx
namespace Go.Proofs.YtbpilohnhhbbpaaGreatDoor
set_option maxRecDepth 100000
noncomputable def aD4_1_t : Tree := .any (.c 1) (.c 9223372036854775807) (.letI (.mul (.v 2) (.c 2)) (.any (.c 1) (.c 9223372036854775807) (.letI (.mul (.v 4) (.c 2)) (.done [] []))))
theorem aD4_1_tree : (L2.aD4_1).exe Tryz.prog (L2.cfg Tryz.prog) [] 20 200 = aD4_1_t := by kernel_rfl
theorem aD4_1_vc (Q : List Int → List (List Int) → Prop) (v0 v1 : Int) : aD4_1_t.dn ⟨Q, []⟩ 2 [v1, v0] 0 [] = (∀ v2 : Int, (1 : Int) ≤ v2 → v2 ≤ (9223372036854775807 : Int) → ∀ v3 : Int, v3 = v2 * (2 : Int) → ∀ v4 : Int, (1 : Int) ≤ v4 → v4 ≤ (9223372036854775807 : Int) → ∀ v5 : Int, v5 = v4 * (2 : Int) → Q [] []) := by kernel_rfl
set_option maxHeartbeats 4000000 in
theorem aD4_1_holds : (L2.aD4_1).Holds Tryz.prog L2.ro := FSpec.holdsV (cfg := L2.cfg Tryz.prog) [] 20 200 cfg_ok mixed (t := aD4_1_t) aD4_1_tree (by
  show ∀ (v0 v1 : Int) , _
  intro v0 v1  hp hr hl
  replace hr : (((2) : Int) ≤ v0 ∧ v0 ≤ ((9223372036854775807) : Int)) ∧ (((4) : Int) ≤ v1 ∧ v1 ≤ ((9223372036854775807) : Int)) ∧ True := hr
  replace hl : True := hl
  show aD4_1_t.dn ⟨_, []⟩ 2 [v1, v0] 0 []
  rw [aD4_1_vc]
  repeat' first | refine And.intro ?_ ?_ | intro _
  all_goals trivial)
noncomputable def aR4_1_t : Tree := .done [] []
theorem aR4_1_tree : (L2.aR4_1).exe Tryz.prog (L2.cfg Tryz.prog) [] 20 200 = aR4_1_t := by kernel_rfl
theorem aR4_1_vc (Q : List Int → List (List Int) → Prop) (v0 v1 : Int) : aR4_1_t.dn ⟨Q, []⟩ 2 [v1, v0] 0 [] = (Q [] []) := by kernel_rfl
set_option maxHeartbeats 4000000 in
theorem aR4_1_holds : (L2.aR4_1).Holds Tryz.prog L2.ro := FSpec.holdsV (cfg := L2.cfg Tryz.prog) [] 20 200 cfg_ok mixed (t := aR4_1_t) aR4_1_tree (by
  show ∀ (v0 v1 : Int) , _
  intro v0 v1  hp hr hl
  replace hr : (((2) : Int) ≤ v0 ∧ v0 ≤ ((9223372036854775807) : Int)) ∧ (((4) : Int) ≤ v1 ∧ v1 ≤ ((9223372036854775807) : Int)) ∧ True := hr
  replace hl : True := hl
  show aR4_1_t.dn ⟨_, []⟩ 2 [v1, v0] 0 []
  rw [aR4_1_vc]
  repeat' first | refine And.intro ?_ ?_ | intro _
  all_goals trivial)
noncomputable def aD4_2_t : Tree := .any (.c 1) (.c 9223372036854775807) (.letI (.mul (.v 2) (.c 2)) (.any (.c 1) (.c 9223372036854775807) (.letI (.mul (.v 4) (.c 2)) (.done [] []))))
theorem aD4_2_tree : (L2.aD4_2).exe Tryz.prog (L2.cfg Tryz.prog) [] 20 200 = aD4_2_t := by kernel_rfl
theorem aD4_2_vc (Q : List Int → List (List Int) → Prop) (v0 v1 : Int) : aD4_2_t.dn ⟨Q, []⟩ 2 [v1, v0] 0 [] = (∀ v2 : Int, (1 : Int) ≤ v2 → v2 ≤ (9223372036854775807 : Int) → ∀ v3 : Int, v3 = v2 * (2 : Int) → ∀ v4 : Int, (1 : Int) ≤ v4 → v4 ≤ (9223372036854775807 : Int) → ∀ v5 : Int, v5 = v4 * (2 : Int) → Q [] []) := by kernel_rfl
set_option maxHeartbeats 4000000 in
theorem aD4_2_holds : (L2.aD4_2).Holds Tryz.prog L2.ro := FSpec.holdsV (cfg := L2.cfg Tryz.prog) [] 20 200 cfg_ok mixed (t := aD4_2_t) aD4_2_tree (by
  show ∀ (v0 v1 : Int) , _
  intro v0 v1  hp hr hl
  replace hr : (((2) : Int) ≤ v0 ∧ v0 ≤ ((9223372036854775807) : Int)) ∧ (((4) : Int) ≤ v1 ∧ v1 ≤ ((9223372036854775807) : Int)) ∧ True := hr
  replace hl : True := hl
  show aD4_2_t.dn ⟨_, []⟩ 2 [v1, v0] 0 []
  rw [aD4_2_vc]
  repeat' first | refine And.intro ?_ ?_ | intro _
  all_goals trivial)
noncomputable def aR4_2_t : Tree := .done [] []
theorem aR4_2_tree : (L2.aR4_2).exe Tryz.prog (L2.cfg Tryz.prog) [] 20 200 = aR4_2_t := by kernel_rfl
theorem aR4_2_vc (Q : List Int → List (List Int) → Prop) (v0 v1 : Int) : aR4_2_t.dn ⟨Q, []⟩ 2 [v1, v0] 0 [] = (Q [] []) := by kernel_rfl
set_option maxHeartbeats 4000000 in
theorem aR4_2_holds : (L2.aR4_2).Holds Tryz.prog L2.ro := FSpec.holdsV (cfg := L2.cfg Tryz.prog) [] 20 200 cfg_ok mixed (t := aR4_2_t) aR4_2_tree (by
  show ∀ (v0 v1 : Int) , _
  intro v0 v1  hp hr hl
  replace hr : (((2) : Int) ≤ v0 ∧ v0 ≤ ((9223372036854775807) : Int)) ∧ (((4) : Int) ≤ v1 ∧ v1 ≤ ((9223372036854775807) : Int)) ∧ True := hr
  replace hl : True := hl
  show aR4_2_t.dn ⟨_, []⟩ 2 [v1, v0] 0 []
  rw [aR4_2_vc]
  repeat' first | refine And.intro ?_ ?_ | intro _
  all_goals trivial)
noncomputable def aD4_3_t : Tree := .any (.c 1) (.c 9223372036854775807) (.letI (.mul (.v 2) (.c 2)) (.any (.c 1) (.c 9223372036854775807) (.letI (.mul (.v 4) (.c 2)) (.done [] []))))
theorem aD4_3_tree : (L2.aD4_3).exe Tryz.prog (L2.cfg Tryz.prog) [] 20 200 = aD4_3_t := by kernel_rfl
theorem aD4_3_vc (Q : List Int → List (List Int) → Prop) (v0 v1 : Int) : aD4_3_t.dn ⟨Q, []⟩ 2 [v1, v0] 0 [] = (∀ v2 : Int, (1 : Int) ≤ v2 → v2 ≤ (9223372036854775807 : Int) → ∀ v3 : Int, v3 = v2 * (2 : Int) → ∀ v4 : Int, (1 : Int) ≤ v4 → v4 ≤ (9223372036854775807 : Int) → ∀ v5 : Int, v5 = v4 * (2 : Int) → Q [] []) := by kernel_rfl
set_option maxHeartbeats 4000000 in
theorem aD4_3_holds : (L2.aD4_3).Holds Tryz.prog L2.ro := FSpec.holdsV (cfg := L2.cfg Tryz.prog) [] 20 200 cfg_ok mixed (t := aD4_3_t) aD4_3_tree (by
  show ∀ (v0 v1 : Int) , _
  intro v0 v1  hp hr hl
  replace hr : (((2) : Int) ≤ v0 ∧ v0 ≤ ((9223372036854775807) : Int)) ∧ (((4) : Int) ≤ v1 ∧ v1 ≤ ((9223372036854775807) : Int)) ∧ True := hr
  replace hl : True := hl
  show aD4_3_t.dn ⟨_, []⟩ 2 [v1, v0] 0 []
  rw [aD4_3_vc]
  repeat' first | refine And.intro ?_ ?_ | intro _
  all_goals trivial)
noncomputable def aR4_3_t : Tree := .done [] []
theorem aR4_3_tree : (L2.aR4_3).exe Tryz.prog (L2.cfg Tryz.prog) [] 20 200 = aR4_3_t := by kernel_rfl
theorem aR4_3_vc (Q : List Int → List (List Int) → Prop) (v0 v1 : Int) : aR4_3_t.dn ⟨Q, []⟩ 2 [v1, v0] 0 [] = (Q [] []) := by kernel_rfl
set_option maxHeartbeats 4000000 in
theorem aR4_3_holds : (L2.aR4_3).Holds Tryz.prog L2.ro := FSpec.holdsV (cfg := L2.cfg Tryz.prog) [] 20 200 cfg_ok mixed (t := aR4_3_t) aR4_3_tree (by
  show ∀ (v0 v1 : Int) , _
  intro v0 v1  hp hr hl
  replace hr : (((2) : Int) ≤ v0 ∧ v0 ≤ ((9223372036854775807) : Int)) ∧ (((4) : Int) ≤ v1 ∧ v1 ≤ ((9223372036854775807) : Int)) ∧ True := hr
  replace hl : True := hl
  show aR4_3_t.dn ⟨_, []⟩ 2 [v1, v0] 0 []
  rw [aR4_3_vc]
  repeat' first | refine And.intro ?_ ?_ | intro _
  all_goals trivial)
end Go.Proofs.YtbpilohnhhbbpaaGreatDoor
