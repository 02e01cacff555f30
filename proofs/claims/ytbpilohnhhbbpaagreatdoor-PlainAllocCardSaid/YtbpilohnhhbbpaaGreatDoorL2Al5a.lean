/- Contracts: calls at closed states. -/
import Derived.Test.YtbpilohnhhbbpaaGreatDoorL2Facts
import Derived.Test.YtbpilohnhhbbpaaGreatDoorSxM7
import Derived.Test.YtbpilohnhhbbpaaGreatDoorL2Al
set_option linter.unusedVariables false
set_option linter.constructorNameAsVariable false
set_option linter.unusedSimpArgs false
open Go Go.Sx
namespace Go.Proofs.YtbpilohnhhbbpaaGreatDoor
set_option maxRecDepth 100000
noncomputable def aN5_t : Tree := .any (.c 1) (.c 9223372036854775807) (.any (.c 2) (.c 9223372036854775807) (.any (.c 3) (.c 9223372036854775807) (.any (.c 4) (.c 9223372036854775807) (.any (.c 5) (.c 9223372036854775807) (.any (.c 1) (.c 9223372036854775807) (.any (.c 2) (.c 9223372036854775807) (.done [.v 6, .v 4] [])))))))
theorem aN5_tree : (L2.aN5).exe Tryz.prog (L2.cfg Tryz.prog) [] 20 200 = aN5_t := by kernel_rfl
theorem aN5_vc (Q : List Int → List (List Int) → Prop) : aN5_t.dn ⟨Q, []⟩ 0 [] 0 [] = (∀ v0 : Int, (1 : Int) ≤ v0 → v0 ≤ (9223372036854775807 : Int) → ∀ v1 : Int, (2 : Int) ≤ v1 → v1 ≤ (9223372036854775807 : Int) → ∀ v2 : Int, (3 : Int) ≤ v2 → v2 ≤ (9223372036854775807 : Int) → ∀ v3 : Int, (4 : Int) ≤ v3 → v3 ≤ (9223372036854775807 : Int) → ∀ v4 : Int, (5 : Int) ≤ v4 → v4 ≤ (9223372036854775807 : Int) → ∀ v5 : Int, (1 : Int) ≤ v5 → v5 ≤ (9223372036854775807 : Int) → ∀ v6 : Int, (2 : Int) ≤ v6 → v6 ≤ (9223372036854775807 : Int) → Q [v6, v4] []) := by kernel_rfl
set_option maxHeartbeats 4000000 in
theorem aN5_holds : (L2.aN5).Holds Tryz.prog L2.ro := FSpec.holdsV (cfg := L2.cfg Tryz.prog) [] 20 200 cfg_ok mixed (t := aN5_t) aN5_tree (by
  show _ → _
  intro   hp hr hl
  replace hr : True := hr
  replace hl : True := hl
  show aN5_t.dn ⟨_, []⟩ 0 [] 0 []
  rw [aN5_vc]
  repeat' first | refine And.intro ?_ ?_ | intro _
  all_goals trivial)
noncomputable def aA5_0_t : Tree := .done [] []
theorem aA5_0_tree : (L2.aA5_0).exe Tryz.prog (L2.cfg Tryz.prog) [] 20 200 = aA5_0_t := by kernel_rfl
theorem aA5_0_vc (Q : List Int → List (List Int) → Prop) (v0 v1 : Int) : aA5_0_t.dn ⟨Q, []⟩ 2 [v1, v0] 0 [] = (Q [] []) := by kernel_rfl
set_option maxHeartbeats 4000000 in
theorem aA5_0_holds : (L2.aA5_0).Holds Tryz.prog L2.ro := FSpec.holdsV (cfg := L2.cfg Tryz.prog) [] 20 200 cfg_ok mixed (t := aA5_0_t) aA5_0_tree (by
  show ∀ (v0 v1 : Int) , _
  intro v0 v1  hp hr hl
  replace hr : (((2) : Int) ≤ v0 ∧ v0 ≤ ((9223372036854775807) : Int)) ∧ (((5) : Int) ≤ v1 ∧ v1 ≤ ((9223372036854775807) : Int)) ∧ True := hr
  replace hl : True := hl
  show aA5_0_t.dn ⟨_, []⟩ 2 [v1, v0] 0 []
  rw [aA5_0_vc]
  repeat' first | refine And.intro ?_ ?_ | intro _
  all_goals trivial)
noncomputable def aA5_1_t : Tree := .done [] []
theorem aA5_1_tree : (L2.aA5_1).exe Tryz.prog (L2.cfg Tryz.prog) [] 20 200 = aA5_1_t := by kernel_rfl
theorem aA5_1_vc (Q : List Int → List (List Int) → Prop) (v0 v1 : Int) : aA5_1_t.dn ⟨Q, []⟩ 2 [v1, v0] 0 [] = (Q [] []) := by kernel_rfl
set_option maxHeartbeats 4000000 in
theorem aA5_1_holds : (L2.aA5_1).Holds Tryz.prog L2.ro := FSpec.holdsV (cfg := L2.cfg Tryz.prog) [] 20 200 cfg_ok mixed (t := aA5_1_t) aA5_1_tree (by
  show ∀ (v0 v1 : Int) , _
  intro v0 v1  hp hr hl
  replace hr : (((2) : Int) ≤ v0 ∧ v0 ≤ ((9223372036854775807) : Int)) ∧ (((5) : Int) ≤ v1 ∧ v1 ≤ ((9223372036854775807) : Int)) ∧ True := hr
  replace hl : True := hl
  show aA5_1_t.dn ⟨_, []⟩ 2 [v1, v0] 0 []
  rw [aA5_1_vc]
  repeat' first | refine And.intro ?_ ?_ | intro _
  all_goals trivial)
noncomputable def aA5_2_t : Tree := .done [] []
theorem aA5_2_tree : (L2.aA5_2).exe Tryz.prog (L2.cfg Tryz.prog) [] 20 200 = aA5_2_t := by kernel_rfl
theorem aA5_2_vc (Q : List Int → List (List Int) → Prop) (v0 v1 : Int) : aA5_2_t.dn ⟨Q, []⟩ 2 [v1, v0] 0 [] = (Q [] []) := by kernel_rfl
set_option maxHeartbeats 4000000 in
theorem aA5_2_holds : (L2.aA5_2).Holds Tryz.prog L2.ro := FSpec.holdsV (cfg := L2.cfg Tryz.prog) [] 20 200 cfg_ok mixed (t := aA5_2_t) aA5_2_tree (by
  show ∀ (v0 v1 : Int) , _
  intro v0 v1  hp hr hl
  replace hr : (((2) : Int) ≤ v0 ∧ v0 ≤ ((9223372036854775807) : Int)) ∧ (((5) : Int) ≤ v1 ∧ v1 ≤ ((9223372036854775807) : Int)) ∧ True := hr
  replace hl : True := hl
  show aA5_2_t.dn ⟨_, []⟩ 2 [v1, v0] 0 []
  rw [aA5_2_vc]
  repeat' first | refine And.intro ?_ ?_ | intro _
  all_goals trivial)
noncomputable def aA5_3_t : Tree := .done [] []
theorem aA5_3_tree : (L2.aA5_3).exe Tryz.prog (L2.cfg Tryz.prog) [] 20 200 = aA5_3_t := by kernel_rfl
theorem aA5_3_vc (Q : List Int → List (List Int) → Prop) (v0 v1 : Int) : aA5_3_t.dn ⟨Q, []⟩ 2 [v1, v0] 0 [] = (Q [] []) := by kernel_rfl
set_option maxHeartbeats 4000000 in
theorem aA5_3_holds : (L2.aA5_3).Holds Tryz.prog L2.ro := FSpec.holdsV (cfg := L2.cfg Tryz.prog) [] 20 200 cfg_ok mixed (t := aA5_3_t) aA5_3_tree (by
  show ∀ (v0 v1 : Int) , _
  intro v0 v1  hp hr hl
  replace hr : (((2) : Int) ≤ v0 ∧ v0 ≤ ((9223372036854775807) : Int)) ∧ (((5) : Int) ≤ v1 ∧ v1 ≤ ((9223372036854775807) : Int)) ∧ True := hr
  replace hl : True := hl
  show aA5_3_t.dn ⟨_, []⟩ 2 [v1, v0] 0 []
  rw [aA5_3_vc]
  repeat' first | refine And.intro ?_ ?_ | intro _
  all_goals trivial)
noncomputable def aA5_4_t : Tree := .done [] []
theorem aA5_4_tree : (L2.aA5_4).exe Tryz.prog (L2.cfg Tryz.prog) [] 20 200 = aA5_4_t := by kernel_rfl
theorem aA5_4_vc (Q : List Int → List (List Int) → Prop) (v0 v1 : Int) : aA5_4_t.dn ⟨Q, []⟩ 2 [v1, v0] 0 [] = (Q [] []) := by kernel_rfl
set_option maxHeartbeats 4000000 in
theorem aA5_4_holds : (L2.aA5_4).Holds Tryz.prog L2.ro := FSpec.holdsV (cfg := L2.cfg Tryz.prog) [] 20 200 cfg_ok mixed (t := aA5_4_t) aA5_4_tree (by
  show ∀ (v0 v1 : Int) , _
  intro v0 v1  hp hr hl
  replace hr : (((2) : Int) ≤ v0 ∧ v0 ≤ ((9223372036854775807) : Int)) ∧ (((5) : Int) ≤ v1 ∧ v1 ≤ ((9223372036854775807) : Int)) ∧ True := hr
  replace hl : True := hl
  show aA5_4_t.dn ⟨_, []⟩ 2 [v1, v0] 0 []
  rw [aA5_4_vc]
  repeat' first | refine And.intro ?_ ?_ | intro _
  all_goals trivial)
noncomputable def aF5_t : Tree := .done [] []
theorem aF5_tree : (L2.aF5).exe Tryz.prog (L2.cfg Tryz.prog) [] 20 200 = aF5_t := by kernel_rfl
theorem aF5_vc (Q : List Int → List (List Int) → Prop) (v0 v1 : Int) : aF5_t.dn ⟨Q, []⟩ 2 [v1, v0] 0 [] = (Q [] []) := by kernel_rfl
set_option maxHeartbeats 4000000 in
theorem aF5_holds : (L2.aF5).Holds Tryz.prog L2.ro := FSpec.holdsV (cfg := L2.cfg Tryz.prog) [] 20 200 cfg_ok mixed (t := aF5_t) aF5_tree (by
  show ∀ (v0 v1 : Int) , _
  intro v0 v1  hp hr hl
  replace hr : (((2) : Int) ≤ v0 ∧ v0 ≤ ((9223372036854775807) : Int)) ∧ (((5) : Int) ≤ v1 ∧ v1 ≤ ((9223372036854775807) : Int)) ∧ True := hr
  replace hl : True := hl
  show aF5_t.dn ⟨_, []⟩ 2 [v1, v0] 0 []
  rw [aF5_vc]
  repeat' first | refine And.intro ?_ ?_ | intro _
  all_goals trivial)
noncomputable def aB5_t : Tree := .done [] []
theorem aB5_tree : (L2.aB5).exe Tryz.prog (L2.cfg Tryz.prog) [] 20 200 = aB5_t := by kernel_rfl
theorem aB5_vc (Q : List Int → List (List Int) → Prop) (v0 v1 : Int) : aB5_t.dn ⟨Q, []⟩ 2 [v1, v0] 0 [] = (Q [] []) := by kernel_rfl
set_option maxHeartbeats 4000000 in
theorem aB5_holds : (L2.aB5).Holds Tryz.prog L2.ro := FSpec.holdsV (cfg := L2.cfg Tryz.prog) [] 20 200 cfg_ok mixed (t := aB5_t) aB5_tree (by
  show ∀ (v0 v1 : Int) , _
  intro v0 v1  hp hr hl
  replace hr : (((2) : Int) ≤ v0 ∧ v0 ≤ ((9223372036854775807) : Int)) ∧ (((5) : Int) ≤ v1 ∧ v1 ≤ ((9223372036854775807) : Int)) ∧ True := hr
  replace hl : True := hl
  show aB5_t.dn ⟨_, []⟩ 2 [v1, v0] 0 []
  rw [aB5_vc]
  repeat' first | refine And.intro ?_ ?_ | intro _
  all_goals trivial)
noncomputable def aD5_0_t : Tree := .any (.c 1) (.c 9223372036854775807) (.letI (.mul (.v 2) (.c 2)) (.any (.c 1) (.c 9223372036854775807) (.letI (.mul (.v 4) (.c 2)) (.done [] []))))
theorem aD5_0_tree : (L2.aD5_0).exe Tryz.prog (L2.cfg Tryz.prog) [] 20 200 = aD5_0_t := by kernel_rfl
theorem aD5_0_vc (Q : List Int → List (List Int) → Prop) (v0 v1 : Int) : aD5_0_t.dn ⟨Q, []⟩ 2 [v1, v0] 0 [] = (∀ v2 : Int, (1 : Int) ≤ v2 → v2 ≤ (9223372036854775807 : Int) → ∀ v3 : Int, v3 = v2 * (2 : Int) → ∀ v4 : Int, (1 : Int) ≤ v4 → v4 ≤ (9223372036854775807 : Int) → ∀ v5 : Int, v5 = v4 * (2 : Int) → Q [] []) := by kernel_rfl
set_option maxHeartbeats 4000000 in
theorem aD5_0_holds : (L2.aD5_0).Holds Tryz.prog L2.ro := FSpec.holdsV (cfg := L2.cfg Tryz.prog) [] 20 200 cfg_ok mixed (t := aD5_0_t) aD5_0_tree (by
  show ∀ (v0 v1 : Int) , _
  intro v0 v1  hp hr hl
  replace hr : (((2) : Int) ≤ v0 ∧ v0 ≤ ((9223372036854775807) : Int)) ∧ (((5) : Int) ≤ v1 ∧ v1 ≤ ((9223372036854775807) : Int)) ∧ True := hr
  replace hl : True := hl
  show aD5_0_t.dn ⟨_, []⟩ 2 [v1, v0] 0 []
  rw [aD5_0_vc]
  repeat' first | refine And.intro ?_ ?_ | intro _
  all_goals trivial)
end Go.Proofs.YtbpilohnhhbbpaaGreatDoor
