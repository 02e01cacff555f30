/- Contracts: calls at closed states. -/
import Derived.Test.YtbpilohnhhbbpaaGreatDoorL2Facts
import Derived.Test.YtbpilohnhhbbpaaGreatDoorSxM7
import Derived.Test.YtbpilohnhhbbpaaGreatDoorL2Al
set_option linter.unusedVariables false
set_option linter.constructorNameAsVariable false
set_option linter.unusedSimpArgs false
open Go Go.Sx
namespace Go.Proofs.YtbpilohnhhbbpaaGreatDoor
set_option maxRecDepth 100000
noncomputable def aN4_t : Tree := .any (.c 1) (.c 9223372036854775807) (.any (.c 2) (.c 9223372036854775807) (.any (.c 3) (.c 9223372036854775807) (.any (.c 4) (.c 9223372036854775807) (.any (.c 1) (.c 9223372036854775807) (.any (.c 2) (.c 9223372036854775807) (.done [.v 5, .v 3] []))))))
theorem aN4_tree : (L2.aN4).exe Tryz.prog (L2.cfg Tryz.prog) [] 20 200 = aN4_t := by kernel_rfl
theorem aN4_vc (Q : List Int → List (List Int) → Prop) : aN4_t.dn ⟨Q, []⟩ 0 [] 0 [] = (∀ v0 : Int, (1 : Int) ≤ v0 → v0 ≤ (9223372036854775807 : Int) → ∀ v1 : Int, (2 : Int) ≤ v1 → v1 ≤ (9223372036854775807 : Int) → ∀ v2 : Int, (3 : Int) ≤ v2 → v2 ≤ (9223372036854775807 : Int) → ∀ v3 : Int, (4 : Int) ≤ v3 → v3 ≤ (9223372036854775807 : Int) → ∀ v4 : Int, (1 : Int) ≤ v4 → v4 ≤ (9223372036854775807 : Int) → ∀ v5 : Int, (2 : Int) ≤ v5 → v5 ≤ (9223372036854775807 : Int) → Q [v5, v3] []) := by kernel_rfl
set_option maxHeartbeats 4000000 in
theorem aN4_holds : (L2.aN4).Holds Tryz.prog L2.ro := FSpec.holdsV (cfg := L2.cfg Tryz.prog) [] 20 200 cfg_ok mixed (t := aN4_t) aN4_tree (by
  show _ → _
  intro   hp hr hl
  replace hr : True := hr
  replace hl : True := hl
  show aN4_t.dn ⟨_, []⟩ 0 [] 0 []
  rw [aN4_vc]
  repeat' first | refine And.intro ?_ ?_ | intro _
  all_goals trivial)
noncomputable def aA4_0_t : Tree := .done [] []
theorem aA4_0_tree : (L2.aA4_0).exe Tryz.prog (L2.cfg Tryz.prog) [] 20 200 = aA4_0_t := by kernel_rfl
theorem aA4_0_vc (Q : List Int → List (List Int) → Prop) (v0 v1 : Int) : aA4_0_t.dn ⟨Q, []⟩ 2 [v1, v0] 0 [] = (Q [] []) := by kernel_rfl
set_option maxHeartbeats 4000000 in
theorem aA4_0_holds : (L2.aA4_0).Holds Tryz.prog L2.ro := FSpec.holdsV (cfg := L2.cfg Tryz.prog) [] 20 200 cfg_ok mixed (t := aA4_0_t) aA4_0_tree (by
  show ∀ (v0 v1 : Int) , _
  intro v0 v1  hp hr hl
  replace hr : (((2) : Int) ≤ v0 ∧ v0 ≤ ((9223372036854775807) : Int)) ∧ (((4) : Int) ≤ v1 ∧ v1 ≤ ((9223372036854775807) : Int)) ∧ True := hr
  replace hl : True := hl
  show aA4_0_t.dn ⟨_, []⟩ 2 [v1, v0] 0 []
  rw [aA4_0_vc]
  repeat' first | refine And.intro ?_ ?_ | intro _
  all_goals trivial)
noncomputable def aA4_1_t : Tree := .done [] []
theorem aA4_1_tree : (L2.aA4_1).exe Tryz.prog (L2.cfg Tryz.prog) [] 20 200 = aA4_1_t := by kernel_rfl
theorem aA4_1_vc (Q : List Int → List (List Int) → Prop) (v0 v1 : Int) : aA4_1_t.dn ⟨Q, []⟩ 2 [v1, v0] 0 [] = (Q [] []) := by kernel_rfl
set_option maxHeartbeats 4000000 in
theorem aA4_1_holds : (L2.aA4_1).Holds Tryz.prog L2.ro := FSpec.holdsV (cfg := L2.cfg Tryz.prog) [] 20 200 cfg_ok mixed (t := aA4_1_t) aA4_1_tree (by
  show ∀ (v0 v1 : Int) , _
  intro v0 v1  hp hr hl
  replace hr : (((2) : Int) ≤ v0 ∧ v0 ≤ ((9223372036854775807) : Int)) ∧ (((4) : Int) ≤ v1 ∧ v1 ≤ ((9223372036854775807) : Int)) ∧ True := hr
  replace hl : True := hl
  show aA4_1_t.dn ⟨_, []⟩ 2 [v1, v0] 0 []
  rw [aA4_1_vc]
  repeat' first | refine And.intro ?_ ?_ | intro _
  all_goals trivial)
noncomputable def aA4_2_t : Tree := .done [] []
theorem aA4_2_tree : (L2.aA4_2).exe Tryz.prog (L2.cfg Tryz.prog) [] 20 200 = aA4_2_t := by kernel_rfl
theorem aA4_2_vc (Q : List Int → List (List Int) → Prop) (v0 v1 : Int) : aA4_2_t.dn ⟨Q, []⟩ 2 [v1, v0] 0 [] = (Q [] []) := by kernel_rfl
set_option maxHeartbeats 4000000 in
theorem aA4_2_holds : (L2.aA4_2).Holds Tryz.prog L2.ro := FSpec.holdsV (cfg := L2.cfg Tryz.prog) [] 20 200 cfg_ok mixed (t := aA4_2_t) aA4_2_tree (by
  show ∀ (v0 v1 : Int) , _
  intro v0 v1  hp hr hl
  replace hr : (((2) : Int) ≤ v0 ∧ v0 ≤ ((9223372036854775807) : Int)) ∧ (((4) : Int) ≤ v1 ∧ v1 ≤ ((9223372036854775807) : Int)) ∧ True := hr
  replace hl : True := hl
  show aA4_2_t.dn ⟨_, []⟩ 2 [v1, v0] 0 []
  rw [aA4_2_vc]
  repeat' first | refine And.intro ?_ ?_ | intro _
  all_goals trivial)
noncomputable def aA4_3_t : Tree := .done [] []
theorem aA4_3_tree : (L2.aA4_3).exe Tryz.prog (L2.cfg Tryz.prog) [] 20 200 = aA4_3_t := by kernel_rfl
theorem aA4_3_vc (Q : List Int → List (List Int) → Prop) (v0 v1 : Int) : aA4_3_t.dn ⟨Q, []⟩ 2 [v1, v0] 0 [] = (Q [] []) := by kernel_rfl
set_option maxHeartbeats 4000000 in
theorem aA4_3_holds : (L2.aA4_3).Holds Tryz.prog L2.ro := FSpec.holdsV (cfg := L2.cfg Tryz.prog) [] 20 200 cfg_ok mixed (t := aA4_3_t) aA4_3_tree (by
  show ∀ (v0 v1 : Int) , _
  intro v0 v1  hp hr hl
  replace hr : (((2) : Int) ≤ v0 ∧ v0 ≤ ((9223372036854775807) : Int)) ∧ (((4) : Int) ≤ v1 ∧ v1 ≤ ((9223372036854775807) : Int)) ∧ True := hr
  replace hl : True := hl
  show aA4_3_t.dn ⟨_, []⟩ 2 [v1, v0] 0 []
  rw [aA4_3_vc]
  repeat' first | refine And.intro ?_ ?_ | intro _
  all_goals trivial)
noncomputable def aF4_t : Tree := .done [] []
theorem aF4_tree : (L2.aF4).exe Tryz.prog (L2.cfg Tryz.prog) [] 20 200 = aF4_t := by kernel_rfl
theorem aF4_vc (Q : List Int → List (List Int) → Prop) (v0 v1 : Int) : aF4_t.dn ⟨Q, []⟩ 2 [v1, v0] 0 [] = (Q [] []) := by kernel_rfl
set_option maxHeartbeats 4000000 in
theorem aF4_holds : (L2.aF4).Holds Tryz.prog L2.ro := FSpec.holdsV (cfg := L2.cfg Tryz.prog) [] 20 200 cfg_ok mixed (t := aF4_t) aF4_tree (by
  show ∀ (v0 v1 : Int) , _
  intro v0 v1  hp hr hl
  replace hr : (((2) : Int) ≤ v0 ∧ v0 ≤ ((9223372036854775807) : Int)) ∧ (((4) : Int) ≤ v1 ∧ v1 ≤ ((9223372036854775807) : Int)) ∧ True := hr
  replace hl : True := hl
  show aF4_t.dn ⟨_, []⟩ 2 [v1, v0] 0 []
  rw [aF4_vc]
  repeat' first | refine And.intro ?_ ?_ | intro _
  all_goals trivial)
noncomputable def aB4_t : Tree := .done [] []
theorem aB4_tree : (L2.aB4).exe Tryz.prog (L2.cfg Tryz.prog) [] 20 200 = aB4_t := by kernel_rfl
theorem aB4_vc (Q : List Int → List (List Int) → Prop) (v0 v1 : Int) : aB4_t.dn ⟨Q, []⟩ 2 [v1, v0] 0 [] = (Q [] []) := by kernel_rfl
set_option maxHeartbeats 4000000 in
theorem aB4_holds : (L2.aB4).Holds Tryz.prog L2.ro := FSpec.holdsV (cfg := L2.cfg Tryz.prog) [] 20 200 cfg_ok mixed (t := aB4_t) aB4_tree (by
  show ∀ (v0 v1 : Int) , _
  intro v0 v1  hp hr hl
  replace hr : (((2) : Int) ≤ v0 ∧ v0 ≤ ((9223372036854775807) : Int)) ∧ (((4) : Int) ≤ v1 ∧ v1 ≤ ((9223372036854775807) : Int)) ∧ True := hr
  replace hl : True := hl
  show aB4_t.dn ⟨_, []⟩ 2 [v1, v0] 0 []
  rw [aB4_vc]
  repeat' first | refine And.intro ?_ ?_ | intro _
  all_goals trivial)
noncomputable def aD4_0_t : Tree := .any (.c 1) (.c 9223372036854775807) (.letI (.mul (.v 2) (.c 2)) (.any (.c 1) (.c 9223372036854775807) (.letI (.mul (.v 4) (.c 2)) (.done [] []))))
theorem aD4_0_tree : (L2.aD4_0).exe Tryz.prog (L2.cfg Tryz.prog) [] 20 200 = aD4_0_t := by kernel_rfl
theorem aD4_0_vc (Q : List Int → List (List Int) → Prop) (v0 v1 : Int) : aD4_0_t.dn ⟨Q, []⟩ 2 [v1, v0] 0 [] = (∀ v2 : Int, (1 : Int) ≤ v2 → v2 ≤ (9223372036854775807 : Int) → ∀ v3 : Int, v3 = v2 * (2 : Int) → ∀ v4 : Int, (1 : Int) ≤ v4 → v4 ≤ (9223372036854775807 : Int) → ∀ v5 : Int, v5 = v4 * (2 : Int) → Q [] []) := by kernel_rfl
set_option maxHeartbeats 4000000 in
theorem aD4_0_holds : (L2.aD4_0).Holds Tryz.prog L2.ro := FSpec.holdsV (cfg := L2.cfg Tryz.prog) [] 20 200 cfg_ok mixed (t := aD4_0_t) aD4_0_tree (by
  show ∀ (v0 v1 : Int) , _
  intro v0 v1  hp hr hl
  replace hr : (((2) : Int) ≤ v0 ∧ v0 ≤ ((9223372036854775807) : Int)) ∧ (((4) : Int) ≤ v1 ∧ v1 ≤ ((9223372036854775807) : Int)) ∧ True := hr
  replace hl : True := hl
  show aD4_0_t.dn ⟨_, []⟩ 2 [v1, v0] 0 []
  rw [aD4_0_vc]
  repeat' first | refine And.intro ?_ ?_ | intro _
  all_goals trivial)
noncomputable def aR4_0_t : Tree := .done [] []
theorem aR4_0_tree : (L2.aR4_0).exe Tryz.prog (L2.cfg Tryz.prog) [] 20 200 = aR4_0_t := by kernel_rfl
theorem aR4_0_vc (Q : List Int → List (List Int) → Prop) (v0 v1 : Int) : aR4_0_t.dn ⟨Q, []⟩ 2 [v1, v0] 0 [] = (Q [] []) := by kernel_rfl
set_option maxHeartbeats 4000000 in
theorem aR4_0_holds : (L2.aR4_0).Holds Tryz.prog L2.ro := FSpec.holdsV (cfg := L2.cfg Tryz.prog) [] 20 200 cfg_ok mixed (t := aR4_0_t) aR4_0_tree (by
  show ∀ (v0 v1 : Int) , _
  intro v0 v1  hp hr hl
  replace hr : (((2) : Int) ≤ v0 ∧ v0 ≤ ((9223372036854775807) : Int)) ∧ (((4) : Int) ≤ v1 ∧ v1 ≤ ((9223372036854775807) : Int)) ∧ True := hr
  replace hl : True := hl
  show aR4_0_t.dn ⟨_, []⟩ 2 [v1, v0] 0 []
  rw [aR4_0_vc]
  repeat' first | refine And.intro ?_ ?_ | intro _
  all_goals trivial)
end Go.Proofs.YtbpilohnhhbbpaaGreatDoor
