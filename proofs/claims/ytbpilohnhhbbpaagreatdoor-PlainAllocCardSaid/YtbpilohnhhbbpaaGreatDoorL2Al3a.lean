/- Contracts: calls at closed states. -/
import Derived.Test.YtbpilohnhhbbpaaGreatDoorL2Facts
import Derived.Test.YtbpilohnhhbbpaaGreatDoorSxM7
import Derived.Test.YtbpilohnhhbbpaaGreatDoorL2Al
set_option linter.unusedVariables false
set_option linter.constructorNameAsVariable false
set_option linter.unusedSimpArgs false
open Go Go.Sx
namespace Go.Proofs.YtbpilohnhhbbpaaGreatDoor
set_option maxRecDepth 100000
noncomputable def aN3_t : Tree := .any (.c 1) (.c 9223372036854775807) (.any (.c 2) (.c 9223372036854775807) (.any (.c 3) (.c 9223372036854775807) (.any (.c 1) (.c 9223372036854775807) (.any (.c 2) (.c 9223372036854775807) (.done [.v 4, .v 2] [])))))
theorem aN3_tree : (L2.aN3).exe Tryz.prog (L2.cfg Tryz.prog) [] 20 200 = aN3_t := by kernel_rfl
theorem aN3_vc (Q : List Int → List (List Int) → Prop) : aN3_t.dn ⟨Q, []⟩ 0 [] 0 [] = (∀ v0 : Int, (1 : Int) ≤ v0 → v0 ≤ (9223372036854775807 : Int) → ∀ v1 : Int, (2 : Int) ≤ v1 → v1 ≤ (9223372036854775807 : Int) → ∀ v2 : Int, (3 : Int) ≤ v2 → v2 ≤ (9223372036854775807 : Int) → ∀ v3 : Int, (1 : Int) ≤ v3 → v3 ≤ (9223372036854775807 : Int) → ∀ v4 : Int, (2 : Int) ≤ v4 → v4 ≤ (9223372036854775807 : Int) → Q [v4, v2] []) := by kernel_rfl
set_option maxHeartbeats 4000000 in
theorem aN3_holds : (L2.aN3).Holds Tryz.prog L2.ro := FSpec.holdsV (cfg := L2.cfg Tryz.prog) [] 20 200 cfg_ok mixed (t := aN3_t) aN3_tree (by
  show _ → _
  intro   hp hr hl
  replace hr : True := hr
  replace hl : True := hl
  show aN3_t.dn ⟨_, []⟩ 0 [] 0 []
  rw [aN3_vc]
  repeat' first | refine And.intro ?_ ?_ | intro _
  all_goals trivial)
noncomputable def aA3_0_t : Tree := .done [] []
theorem aA3_0_tree : (L2.aA3_0).exe Tryz.prog (L2.cfg Tryz.prog) [] 20 200 = aA3_0_t := by kernel_rfl
theorem aA3_0_vc (Q : List Int → List (List Int) → Prop) (v0 v1 : Int) : aA3_0_t.dn ⟨Q, []⟩ 2 [v1, v0] 0 [] = (Q [] []) := by kernel_rfl
set_option maxHeartbeats 4000000 in
theorem aA3_0_holds : (L2.aA3_0).Holds Tryz.prog L2.ro := FSpec.holdsV (cfg := L2.cfg Tryz.prog) [] 20 200 cfg_ok mixed (t := aA3_0_t) aA3_0_tree (by
  show ∀ (v0 v1 : Int) , _
  intro v0 v1  hp hr hl
  replace hr : (((2) : Int) ≤ v0 ∧ v0 ≤ ((9223372036854775807) : Int)) ∧ (((3) : Int) ≤ v1 ∧ v1 ≤ ((9223372036854775807) : Int)) ∧ True := hr
  replace hl : True := hl
  show aA3_0_t.dn ⟨_, []⟩ 2 [v1, v0] 0 []
  rw [aA3_0_vc]
  repeat' first | refine And.intro ?_ ?_ | intro _
  all_goals trivial)
noncomputable def aA3_1_t : Tree := .done [] []
theorem aA3_1_tree : (L2.aA3_1).exe Tryz.prog (L2.cfg Tryz.prog) [] 20 200 = aA3_1_t := by kernel_rfl
theorem aA3_1_vc (Q : List Int → List (List Int) → Prop) (v0 v1 : Int) : aA3_1_t.dn ⟨Q, []⟩ 2 [v1, v0] 0 [] = (Q [] []) := by kernel_rfl
set_option maxHeartbeats 4000000 in
theorem aA3_1_holds : (L2.aA3_1).Holds Tryz.prog L2.ro := FSpec.holdsV (cfg := L2.cfg Tryz.prog) [] 20 200 cfg_ok mixed (t := aA3_1_t) aA3_1_tree (by
  show ∀ (v0 v1 : Int) , _
  intro v0 v1  hp hr hl
  replace hr : (((2) : Int) ≤ v0 ∧ v0 ≤ ((9223372036854775807) : Int)) ∧ (((3) : Int) ≤ v1 ∧ v1 ≤ ((9223372036854775807) : Int)) ∧ True := hr
  replace hl : True := hl
  show aA3_1_t.dn ⟨_, []⟩ 2 [v1, v0] 0 []
  rw [aA3_1_vc]
  repeat' first | refine And.intro ?_ ?_ | intro _
  all_goals trivial)
noncomputable def aA3_2_t : Tree := .done [] []
theorem aA3_2_tree : (L2.aA3_2).exe Tryz.prog (L2.cfg Tryz.prog) [] 20 200 = aA3_2_t := by kernel_rfl
theorem aA3_2_vc (Q : List Int → List (List Int) → Prop) (v0 v1 : Int) : aA3_2_t.dn ⟨Q, []⟩ 2 [v1, v0] 0 [] = (Q [] []) := by kernel_rfl
set_option maxHeartbeats 4000000 in
theorem aA3_2_holds : (L2.aA3_2).Holds Tryz.prog L2.ro := FSpec.holdsV (cfg := L2.cfg Tryz.prog) [] 20 200 cfg_ok mixed (t := aA3_2_t) aA3_2_tree (by
  show ∀ (v0 v1 : Int) , _
  intro v0 v1  hp hr hl
  replace hr : (((2) : Int) ≤ v0 ∧ v0 ≤ ((9223372036854775807) : Int)) ∧ (((3) : Int) ≤ v1 ∧ v1 ≤ ((9223372036854775807) : Int)) ∧ True := hr
  replace hl : True := hl
  show aA3_2_t.dn ⟨_, []⟩ 2 [v1, v0] 0 []
  rw [aA3_2_vc]
  repeat' first | refine And.intro ?_ ?_ | intro _
  all_goals trivial)
noncomputable def aF3_t : Tree := .done [] []
theorem aF3_tree : (L2.aF3).exe Tryz.prog (L2.cfg Tryz.prog) [] 20 200 = aF3_t := by kernel_rfl
theorem aF3_vc (Q : List Int → List (List Int) → Prop) (v0 v1 : Int) : aF3_t.dn ⟨Q, []⟩ 2 [v1, v0] 0 [] = (Q [] []) := by kernel_rfl
set_option maxHeartbeats 4000000 in
theorem aF3_holds : (L2.aF3).Holds Tryz.prog L2.ro := FSpec.holdsV (cfg := L2.cfg Tryz.prog) [] 20 200 cfg_ok mixed (t := aF3_t) aF3_tree (by
  show ∀ (v0 v1 : Int) , _
  intro v0 v1  hp hr hl
  replace hr : (((2) : Int) ≤ v0 ∧ v0 ≤ ((9223372036854775807) : Int)) ∧ (((3) : Int) ≤ v1 ∧ v1 ≤ ((9223372036854775807) : Int)) ∧ True := hr
  replace hl : True := hl
  show aF3_t.dn ⟨_, []⟩ 2 [v1, v0] 0 []
  rw [aF3_vc]
  repeat' first | refine And.intro ?_ ?_ | intro _
  all_goals trivial)
noncomputable def aB3_t : Tree := .done [] []
theorem aB3_tree : (L2.aB3).exe Tryz.prog (L2.cfg Tryz.prog) [] 20 200 = aB3_t := by kernel_rfl
theorem aB3_vc (Q : List Int → List (List Int) → Prop) (v0 v1 : Int) : aB3_t.dn ⟨Q, []⟩ 2 [v1, v0] 0 [] = (Q [] []) := by kernel_rfl
set_option maxHeartbeats 4000000 in
theorem aB3_holds : (L2.aB3).Holds Tryz.prog L2.ro := FSpec.holdsV (cfg := L2.cfg Tryz.prog) [] 20 200 cfg_ok mixed (t := aB3_t) aB3_tree (by
  show ∀ (v0 v1 : Int) , _
  intro v0 v1  hp hr hl
  replace hr : (((2) : Int) ≤ v0 ∧ v0 ≤ ((9223372036854775807) : Int)) ∧ (((3) : Int) ≤ v1 ∧ v1 ≤ ((9223372036854775807) : Int)) ∧ True := hr
  replace hl : True := hl
  show aB3_t.dn ⟨_, []⟩ 2 [v1, v0] 0 []
  rw [aB3_vc]
  repeat' first | refine And.intro ?_ ?_ | intro _
  all_goals trivial)
noncomputable def aD3_0_t : Tree := .any (.c 1) (.c 9223372036854775807) (.letI (.mul (.v 2) (.c 2)) (.any (.c 1) (.c 9223372036854775807) (.letI (.mul (.v 4) (.c 2)) (.done [] []))))
theorem aD3_0_tree : (L2.aD3_0).exe Tryz.prog (L2.cfg Tryz.prog) [] 20 200 = aD3_0_t := by kernel_rfl
theorem aD3_0_vc (Q : List Int → List (List Int) → Prop) (v0 v1 : Int) : aD3_0_t.dn ⟨Q, []⟩ 2 [v1, v0] 0 [] = (∀ v2 : Int, (1 : Int) ≤ v2 → v2 ≤ (9223372036854775807 : Int) → ∀ v3 : Int, v3 = v2 * (2 : Int) → ∀ v4 : Int, (1 : Int) ≤ v4 → v4 ≤ (9223372036854775807 : Int) → ∀ v5 : Int, v5 = v4 * (2 : Int) → Q [] []) := by kernel_rfl
set_option maxHeartbeats 4000000 in
theorem aD3_0_holds : (L2.aD3_0).Holds Tryz.prog L2.ro := FSpec.holdsV (cfg := L2.cfg Tryz.prog) [] 20 200 cfg_ok mixed (t := aD3_0_t) aD3_0_tree (by
  show ∀ (v0 v1 : Int) , _
  intro v0 v1  hp hr hl
  replace hr : (((2) : Int) ≤ v0 ∧ v0 ≤ ((9223372036854775807) : Int)) ∧ (((3) : Int) ≤ v1 ∧ v1 ≤ ((9223372036854775807) : Int)) ∧ True := hr
  replace hl : True := hl
  show aD3_0_t.dn ⟨_, []⟩ 2 [v1, v0] 0 []
  rw [aD3_0_vc]
  repeat' first | refine And.intro ?_ ?_ | intro _
  all_goals trivial)
noncomputable def aR3_0_t : Tree := .done [] []
theorem aR3_0_tree : (L2.aR3_0).exe Tryz.prog (L2.cfg Tryz.prog) [] 20 200 = aR3_0_t := by kernel_rfl
theorem aR3_0_vc (Q : List Int → List (List Int) → Prop) (v0 v1 : Int) : aR3_0_t.dn ⟨Q, []⟩ 2 [v1, v0] 0 [] = (Q [] []) := by kernel_rfl
set_option maxHeartbeats 4000000 in
theorem aR3_0_holds : (L2.aR3_0).Holds Tryz.prog L2.ro := FSpec.holdsV (cfg := L2.cfg Tryz.prog) [] 20 200 cfg_ok mixed (t := aR3_0_t) aR3_0_tree (by
  show ∀ (v0 v1 : Int) , _
  intro v0 v1  hp hr hl
  replace hr : (((2) : Int) ≤ v0 ∧ v0 ≤ ((9223372036854775807) : Int)) ∧ (((3) : Int) ≤ v1 ∧ v1 ≤ ((9223372036854775807) : Int)) ∧ True := hr
  replace hl : True := hl
  show aR3_0_t.dn ⟨_, []⟩ 2 [v1, v0] 0 []
  rw [aR3_0_vc]
  repeat' first | refine And.intro ?_ ?_ | intro _
  all_goals trivial)
noncomputable def aD3_1_t : Tree := .any (.c 1) (.c 9223372036854775807) (.letI (.mul (.v 2) (.c 2)) (.any (.c 1) (.c 9223372036854775807) (.letI (.mul (.v 4) (.c 2)) (.done [] []))))
theorem aD3_1_tree : (L2.aD3_1).exe Tryz.prog (L2.cfg Tryz.prog) [] 20 200 = aD3_1_t := by kernel_rfl
theorem aD3_1_vc (Q : List Int → List (List Int) → Prop) (v0 v1 : Int) : aD3_1_t.dn ⟨Q, []⟩ 2 [v1, v0] 0 [] = (∀ v2 : Int, (1 : Int) ≤ v2 → v2 ≤ (9223372036854775807 : Int) → ∀ v3 : Int, v3 = v2 * (2 : Int) → ∀ v4 : Int, (1 : Int) ≤ v4 → v4 ≤ (9223372036854775807 : Int) → ∀ v5 : Int, v5 = v4 * (2 : Int) → Q [] []) := by kernel_rfl
set_option maxHeartbeats 4000000 in
theorem aD3_1_holds : (L2.aD3_1).Holds Tryz.prog L2.ro := FSpec.holdsV (cfg := L2.cfg Tryz.prog) [] 20 200 cfg_ok mixed (t := aD3_1_t) aD3_1_tree (by
  show ∀ (v0 v1 : Int) , _
  intro v0 v1  hp hr hl
  replace hr : (((2) : Int) ≤ v0 ∧ v0 ≤ ((9223372036854775807) : Int)) ∧ (((3) : Int) ≤ v1 ∧ v1 ≤ ((9223372036854775807) : Int)) ∧ True := hr
  replace hl : True := hl
  show aD3_1_t.dn ⟨_, []⟩ 2 [v1, v0] 0 []
  rw [aD3_1_vc]
  repeat' first | refine And.intro ?_ ?_ | intro _
  all_goals trivial)
end Go.Proofs.YtbpilohnhhbbpaaGreatDoor
