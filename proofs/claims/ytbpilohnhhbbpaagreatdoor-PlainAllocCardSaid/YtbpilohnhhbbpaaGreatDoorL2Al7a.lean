/- Contracts: calls at closed states. -/
import Derived.Test.YtbpilohnhhbbpaaGreatDoorL2Facts
import Derived.Test.YtbpilohnhhbbpaaGreatDoorSxM7
import Derived.Test.YtbpilohnhhbbpaaGreatDoorL2Al
set_option linter.unusedVariables false
set_option linter.constructorNameAsVariable false
set_option linter.unusedSimpArgs false
open Go Go.Sx
namespace Go.Proofs.YtbpilohnhhbbpaaGreatDoor
set_option maxRecDepth 100000
noncomputable def aN7_t : Tree := .any (.c 1) (.c 9223372036854775807) (.any (.c 2) (.c 9223372036854775807) (.any (.c 3) (.c 9223372036854775807) (.any (.c 4) (.c 9223372036854775807) (.any (.c 5) (.c 9223372036854775807) (.any (.c 6) (.c 9223372036854775807) (.any (.c 7) (.c 9223372036854775807) (.any (.c 1) (.c 9223372036854775807) (.any (.c 2) (.c 9223372036854775807) (.done [.v 8, .v 6] [])))))))))
theorem aN7_tree : (L2.aN7).exe Tryz.prog (L2.cfg Tryz.prog) [] 20 200 = aN7_t := by kernel_rfl
theorem aN7_vc (Q : List Int → List (List Int) → Prop) : aN7_t.dn ⟨Q, []⟩ 0 [] 0 [] = (∀ v0 : Int, (1 : Int) ≤ v0 → v0 ≤ (9223372036854775807 : Int) → ∀ v1 : Int, (2 : Int) ≤ v1 → v1 ≤ (9223372036854775807 : Int) → ∀ v2 : Int, (3 : Int) ≤ v2 → v2 ≤ (9223372036854775807 : Int) → ∀ v3 : Int, (4 : Int) ≤ v3 → v3 ≤ (9223372036854775807 : Int) → ∀ v4 : Int, (5 : Int) ≤ v4 → v4 ≤ (9223372036854775807 : Int) → ∀ v5 : Int, (6 : Int) ≤ v5 → v5 ≤ (9223372036854775807 : Int) → ∀ v6 : Int, (7 : Int) ≤ v6 → v6 ≤ (9223372036854775807 : Int) → ∀ v7 : Int, (1 : Int) ≤ v7 → v7 ≤ (9223372036854775807 : Int) → ∀ v8 : Int, (2 : Int) ≤ v8 → v8 ≤ (9223372036854775807 : Int) → Q [v8, v6] []) := by kernel_rfl
set_option maxHeartbeats 4000000 in
theorem aN7_holds : (L2.aN7).Holds Tryz.prog L2.ro := FSpec.holdsV (cfg := L2.cfg Tryz.prog) [] 20 200 cfg_ok mixed (t := aN7_t) aN7_tree (by
  show _ → _
  intro   hp hr hl
  replace hr : True := hr
  replace hl : True := hl
  show aN7_t.dn ⟨_, []⟩ 0 [] 0 []
  rw [aN7_vc]
  repeat' first | refine And.intro ?_ ?_ | intro _
  all_goals trivial)
noncomputable def aA7_0_t : Tree := .done [] []
theorem aA7_0_tree : (L2.aA7_0).exe Tryz.prog (L2.cfg Tryz.prog) [] 20 200 = aA7_0_t := by kernel_rfl
theorem aA7_0_vc (Q : List Int → List (List Int) → Prop) (v0 v1 : Int) : aA7_0_t.dn ⟨Q, []⟩ 2 [v1, v0] 0 [] = (Q [] []) := by kernel_rfl
set_option maxHeartbeats 4000000 in
theorem aA7_0_holds : (L2.aA7_0).Holds Tryz.prog L2.ro := FSpec.holdsV (cfg := L2.cfg Tryz.prog) [] 20 200 cfg_ok mixed (t := aA7_0_t) aA7_0_tree (by
  show ∀ (v0 v1 : Int) , _
  intro v0 v1  hp hr hl
  replace hr : (((2) : Int) ≤ v0 ∧ v0 ≤ ((9223372036854775807) : Int)) ∧ (((7) : Int) ≤ v1 ∧ v1 ≤ ((9223372036854775807) : Int)) ∧ True := hr
  replace hl : True := hl
  show aA7_0_t.dn ⟨_, []⟩ 2 [v1, v0] 0 []
  rw [aA7_0_vc]
  repeat' first | refine And.intro ?_ ?_ | intro _
  all_goals trivial)
noncomputable def aA7_1_t : Tree := .done [] []
theorem aA7_1_tree : (L2.aA7_1).exe Tryz.prog (L2.cfg Tryz.prog) [] 20 200 = aA7_1_t := by kernel_rfl
theorem aA7_1_vc (Q : List Int → List (List Int) → Prop) (v0 v1 : Int) : aA7_1_t.dn ⟨Q, []⟩ 2 [v1, v0] 0 [] = (Q [] []) := by kernel_rfl
set_option maxHeartbeats 4000000 in
theorem aA7_1_holds : (L2.aA7_1).Holds Tryz.prog L2.ro := FSpec.holdsV (cfg := L2.cfg Tryz.prog) [] 20 200 cfg_ok mixed (t := aA7_1_t) aA7_1_tree (by
  show ∀ (v0 v1 : Int) , _
  intro v0 v1  hp hr hl
  replace hr : (((2) : Int) ≤ v0 ∧ v0 ≤ ((9223372036854775807) : Int)) ∧ (((7) : Int) ≤ v1 ∧ v1 ≤ ((9223372036854775807) : Int)) ∧ True := hr
  replace hl : True := hl
  show aA7_1_t.dn ⟨_, []⟩ 2 [v1, v0] 0 []
  rw [aA7_1_vc]
  repeat' first | refine And.intro ?_ ?_ | intro _
  all_goals trivial)
noncomputable def aA7_2_t : Tree := .done [] []
theorem aA7_2_tree : (L2.aA7_2).exe Tryz.prog (L2.cfg Tryz.prog) [] 20 200 = aA7_2_t := by kernel_rfl
theorem aA7_2_vc (Q : List Int → List (List Int) → Prop) (v0 v1 : Int) : aA7_2_t.dn ⟨Q, []⟩ 2 [v1, v0] 0 [] = (Q [] []) := by kernel_rfl
set_option maxHeartbeats 4000000 in
theorem aA7_2_holds : (L2.aA7_2).Holds Tryz.prog L2.ro := FSpec.holdsV (cfg := L2.cfg Tryz.prog) [] 20 200 cfg_ok mixed (t := aA7_2_t) aA7_2_tree (by
  show ∀ (v0 v1 : Int) , _
  intro v0 v1  hp hr hl
  replace hr : (((2) : Int) ≤ v0 ∧ v0 ≤ ((9223372036854775807) : Int)) ∧ (((7) : Int) ≤ v1 ∧ v1 ≤ ((9223372036854775807) : Int)) ∧ True := hr
  replace hl : True := hl
  show aA7_2_t.dn ⟨_, []⟩ 2 [v1, v0] 0 []
  rw [aA7_2_vc]
  repeat' first | refine And.intro ?_ ?_ | intro _
  all_goals trivial)
noncomputable def aA7_3_t : Tree := .done [] []
theorem aA7_3_tree : (L2.aA7_3).exe Tryz.prog (L2.cfg Tryz.prog) [] 20 200 = aA7_3_t := by kernel_rfl
theorem aA7_3_vc (Q : List Int → List (List Int) → Prop) (v0 v1 : Int) : aA7_3_t.dn ⟨Q, []⟩ 2 [v1, v0] 0 [] = (Q [] []) := by kernel_rfl
set_option maxHeartbeats 4000000 in
theorem aA7_3_holds : (L2.aA7_3).Holds Tryz.prog L2.ro := FSpec.holdsV (cfg := L2.cfg Tryz.prog) [] 20 200 cfg_ok mixed (t := aA7_3_t) aA7_3_tree (by
  show ∀ (v0 v1 : Int) , _
  intro v0 v1  hp hr hl
  replace hr : (((2) : Int) ≤ v0 ∧ v0 ≤ ((9223372036854775807) : Int)) ∧ (((7) : Int) ≤ v1 ∧ v1 ≤ ((9223372036854775807) : Int)) ∧ True := hr
  replace hl : True := hl
  show aA7_3_t.dn ⟨_, []⟩ 2 [v1, v0] 0 []
  rw [aA7_3_vc]
  repeat' first | refine And.intro ?_ ?_ | intro _
  all_goals trivial)
noncomputable def aA7_4_t : Tree := .done [] []
theorem aA7_4_tree : (L2.aA7_4).exe Tryz.prog (L2.cfg Tryz.prog) [] 20 200 = aA7_4_t := by kernel_rfl
theorem aA7_4_vc (Q : List Int → List (List Int) → Prop) (v0 v1 : Int) : aA7_4_t.dn ⟨Q, []⟩ 2 [v1, v0] 0 [] = (Q [] []) := by kernel_rfl
set_option maxHeartbeats 4000000 in
theorem aA7_4_holds : (L2.aA7_4).Holds Tryz.prog L2.ro := FSpec.holdsV (cfg := L2.cfg Tryz.prog) [] 20 200 cfg_ok mixed (t := aA7_4_t) aA7_4_tree (by
  show ∀ (v0 v1 : Int) , _
  intro v0 v1  hp hr hl
  replace hr : (((2) : Int) ≤ v0 ∧ v0 ≤ ((9223372036854775807) : Int)) ∧ (((7) : Int) ≤ v1 ∧ v1 ≤ ((9223372036854775807) : Int)) ∧ True := hr
  replace hl : True := hl
  show aA7_4_t.dn ⟨_, []⟩ 2 [v1, v0] 0 []
  rw [aA7_4_vc]
  repeat' first | refine And.intro ?_ ?_ | intro _
  all_goals trivial)
noncomputable def aA7_5_t : Tree := .done [] []
theorem aA7_5_tree : (L2.aA7_5).exe Tryz.prog (L2.cfg Tryz.prog) [] 20 200 = aA7_5_t := by kernel_rfl
theorem aA7_5_vc (Q : List Int → List (List Int) → Prop) (v0 v1 : Int) : aA7_5_t.dn ⟨Q, []⟩ 2 [v1, v0] 0 [] = (Q [] []) := by kernel_rfl
set_option maxHeartbeats 4000000 in
theorem aA7_5_holds : (L2.aA7_5).Holds Tryz.prog L2.ro := FSpec.holdsV (cfg := L2.cfg Tryz.prog) [] 20 200 cfg_ok mixed (t := aA7_5_t) aA7_5_tree (by
  show ∀ (v0 v1 : Int) , _
  intro v0 v1  hp hr hl
  replace hr : (((2) : Int) ≤ v0 ∧ v0 ≤ ((9223372036854775807) : Int)) ∧ (((7) : Int) ≤ v1 ∧ v1 ≤ ((9223372036854775807) : Int)) ∧ True := hr
  replace hl : True := hl
  show aA7_5_t.dn ⟨_, []⟩ 2 [v1, v0] 0 []
  rw [aA7_5_vc]
  repeat' first | refine And.intro ?_ ?_ | intro _
  all_goals trivial)
noncomputable def aA7_6_t : Tree := .done [] []
theorem aA7_6_tree : (L2.aA7_6).exe Tryz.prog (L2.cfg Tryz.prog) [] 20 200 = aA7_6_t := by kernel_rfl
theorem aA7_6_vc (Q : List Int → List (List Int) → Prop) (v0 v1 : Int) : aA7_6_t.dn ⟨Q, []⟩ 2 [v1, v0] 0 [] = (Q [] []) := by kernel_rfl
set_option maxHeartbeats 4000000 in
theorem aA7_6_holds : (L2.aA7_6).Holds Tryz.prog L2.ro := FSpec.holdsV (cfg := L2.cfg Tryz.prog) [] 20 200 cfg_ok mixed (t := aA7_6_t) aA7_6_tree (by
  show ∀ (v0 v1 : Int) , _
  intro v0 v1  hp hr hl
  replace hr : (((2) : Int) ≤ v0 ∧ v0 ≤ ((9223372036854775807) : Int)) ∧ (((7) : Int) ≤ v1 ∧ v1 ≤ ((9223372036854775807) : Int)) ∧ True := hr
  replace hl : True := hl
  show aA7_6_t.dn ⟨_, []⟩ 2 [v1, v0] 0 []
  rw [aA7_6_vc]
  repeat' first | refine And.intro ?_ ?_ | intro _
  all_goals trivial)
noncomputable def aF7_t : Tree := .done [] []
theorem aF7_tree : (L2.aF7).exe Tryz.prog (L2.cfg Tryz.prog) [] 20 200 = aF7_t := by kernel_rfl
theorem aF7_vc (Q : List Int → List (List Int) → Prop) (v0 v1 : Int) : aF7_t.dn ⟨Q, []⟩ 2 [v1, v0] 0 [] = (Q [] []) := by kernel_rfl
set_option maxHeartbeats 4000000 in
theorem aF7_holds : (L2.aF7).Holds Tryz.prog L2.ro := FSpec.holdsV (cfg := L2.cfg Tryz.prog) [] 20 200 cfg_ok mixed (t := aF7_t) aF7_tree (by
  show ∀ (v0 v1 : Int) , _
  intro v0 v1  hp hr hl
  replace hr : (((2) : Int) ≤ v0 ∧ v0 ≤ ((9223372036854775807) : Int)) ∧ (((7) : Int) ≤ v1 ∧ v1 ≤ ((9223372036854775807) : Int)) ∧ True := hr
  replace hl : True := hl
  show aF7_t.dn ⟨_, []⟩ 2 [v1, v0] 0 []
  rw [aF7_vc]
  repeat' first | refine And.intro ?_ ?_ | intro _
  all_goals trivial)
end Go.Proofs.YtbpilohnhhbbpaaGreatDoor
