/- Contracts: calls at closed states. -/
import Derived.Test.YtbpilohnhhbbpaaGreatDoorL2Facts
import Derived.Test.YtbpilohnhhbbpaaGreatDoorSxM7
import Derived.Test.YtbpilohnhhbbpaaGreatDoorL2Al
set_option linter.unusedVariables false
set_option linter.constructorNameAsVariable false
set_option linter.unusedSimpArgs false
open Go Go.Sx
namespace Go.Proofs.YtbpilohnhhbbpaaGreatDoor
set_option maxRecDepth 100000
noncomputable def aN6_t : Tree := .any (.c 1) (.c 9223372036854775807) (.any (.c 2) (.c 9223372036854775807) (.any (.c 3) (.c 9223372036854775807) (.any (.c 4) (.c 9223372036854775807) (.any (.c 5) (.c 9223372036854775807) (.any (.c 6) (.c 9223372036854775807) (.any (.c 1) (.c 9223372036854775807) (.any (.c 2) (.c 9223372036854775807) (.done [.v 7, .v 5] []))))))))
theorem aN6_tree : (L2.aN6).exe Tryz.prog (L2.cfg Tryz.prog) [] 20 200 = aN6_t := by kernel_rfl
theorem aN6_vc (Q : List Int → List (List Int) → Prop) : aN6_t.dn ⟨Q, []⟩ 0 [] 0 [] = (∀ v0 : Int, (1 : Int) ≤ v0 → v0 ≤ (9223372036854775807 : Int) → ∀ v1 : Int, (2 : Int) ≤ v1 → v1 ≤ (9223372036854775807 : Int) → ∀ v2 : Int, (3 : Int) ≤ v2 → v2 ≤ (9223372036854775807 : Int) → ∀ v3 : Int, (4 : Int) ≤ v3 → v3 ≤ (9223372036854775807 : Int) → ∀ v4 : Int, (5 : Int) ≤ v4 → v4 ≤ (9223372036854775807 : Int) → ∀ v5 : Int, (6 : Int) ≤ v5 → v5 ≤ (9223372036854775807 : Int) → ∀ v6 : Int, (1 : Int) ≤ v6 → v6 ≤ (9223372036854775807 : Int) → ∀ v7 : Int, (2 : Int) ≤ v7 → v7 ≤ (9223372036854775807 : Int) → Q [v7, v5] []) := by kernel_rfl
set_option maxHeartbeats 4000000 in
theorem aN6_holds : (L2.aN6).Holds Tryz.prog L2.ro := FSpec.holdsV (cfg := L2.cfg Tryz.prog) [] 20 200 cfg_ok mixed (t := aN6_t) aN6_tree (by
  show _ → _
  intro   hp hr hl
  replace hr : True := hr
  replace hl : True := hl
  show aN6_t.dn ⟨_, []⟩ 0 [] 0 []
  rw [aN6_vc]
  repeat' first | refine And.intro ?_ ?_ | intro _
  all_goals trivial)
noncomputable def aA6_0_t : Tree := .done [] []
theorem aA6_0_tree : (L2.aA6_0).exe Tryz.prog (L2.cfg Tryz.prog) [] 20 200 = aA6_0_t := by kernel_rfl
theorem aA6_0_vc (Q : List Int → List (List Int) → Prop) (v0 v1 : Int) : aA6_0_t.dn ⟨Q, []⟩ 2 [v1, v0] 0 [] = (Q [] []) := by kernel_rfl
set_option maxHeartbeats 4000000 in
theorem aA6_0_holds : (L2.aA6_0).Holds Tryz.prog L2.ro := FSpec.holdsV (cfg := L2.cfg Tryz.prog) [] 20 200 cfg_ok mixed (t := aA6_0_t) aA6_0_tree (by
  show ∀ (v0 v1 : Int) , _
  intro v0 v1  hp hr hl
  replace hr : (((2) : Int) ≤ v0 ∧ v0 ≤ ((9223372036854775807) : Int)) ∧ (((6) : Int) ≤ v1 ∧ v1 ≤ ((9223372036854775807) : Int)) ∧ True := hr
  replace hl : True := hl
  show aA6_0_t.dn ⟨_, []⟩ 2 [v1, v0] 0 []
  rw [aA6_0_vc]
  repeat' first | refine And.intro ?_ ?_ | intro _
  all_goals trivial)
noncomputable def aA6_1_t : Tree := .done [] []
theorem aA6_1_tree : (L2.aA6_1).exe Tryz.prog (L2.cfg Tryz.prog) [] 20 200 = aA6_1_t := by kernel_rfl
theorem aA6_1_vc (Q : List Int → List (List Int) → Prop) (v0 v1 : Int) : aA6_1_t.dn ⟨Q, []⟩ 2 [v1, v0] 0 [] = (Q [] []) := by kernel_rfl
set_option maxHeartbeats 4000000 in
theorem aA6_1_holds : (L2.aA6_1).Holds Tryz.prog L2.ro := FSpec.holdsV (cfg := L2.cfg Tryz.prog) [] 20 200 cfg_ok mixed (t := aA6_1_t) aA6_1_tree (by
  show ∀ (v0 v1 : Int) , _
  intro v0 v1  hp hr hl
  replace hr : (((2) : Int) ≤ v0 ∧ v0 ≤ ((9223372036854775807) : Int)) ∧ (((6) : Int) ≤ v1 ∧ v1 ≤ ((9223372036854775807) : Int)) ∧ True := hr
  replace hl : True := hl
  show aA6_1_t.dn ⟨_, []⟩ 2 [v1, v0] 0 []
  rw [aA6_1_vc]
  repeat' first | refine And.intro ?_ ?_ | intro _
  all_goals trivial)
noncomputable def aA6_2_t : Tree := .done [] []
theorem aA6_2_tree : (L2.aA6_2).exe Tryz.prog (L2.cfg Tryz.prog) [] 20 200 = aA6_2_t := by kernel_rfl
theorem aA6_2_vc (Q : List Int → List (List Int) → Prop) (v0 v1 : Int) : aA6_2_t.dn ⟨Q, []⟩ 2 [v1, v0] 0 [] = (Q [] []) := by kernel_rfl
set_option maxHeartbeats 4000000 in
theorem aA6_2_holds : (L2.aA6_2).Holds Tryz.prog L2.ro := FSpec.holdsV (cfg := L2.cfg Tryz.prog) [] 20 200 cfg_ok mixed (t := aA6_2_t) aA6_2_tree (by
  show ∀ (v0 v1 : Int) , _
  intro v0 v1  hp hr hl
  replace hr : (((2) : Int) ≤ v0 ∧ v0 ≤ ((9223372036854775807) : Int)) ∧ (((6) : Int) ≤ v1 ∧ v1 ≤ ((9223372036854775807) : Int)) ∧ True := hr
  replace hl : True := hl
  show aA6_2_t.dn ⟨_, []⟩ 2 [v1, v0] 0 []
  rw [aA6_2_vc]
  repeat' first | refine And.intro ?_ ?_ | intro _
  all_goals trivial)
noncomputable def aA6_3_t : Tree := .done [] []
theorem aA6_3_tree : (L2.aA6_3).exe Tryz.prog (L2.cfg Tryz.prog) [] 20 200 = aA6_3_t := by kernel_rfl
theorem aA6_3_vc (Q : List Int → List (List Int) → Prop) (v0 v1 : Int) : aA6_3_t.dn ⟨Q, []⟩ 2 [v1, v0] 0 [] = (Q [] []) := by kernel_rfl
set_option maxHeartbeats 4000000 in
theorem aA6_3_holds : (L2.aA6_3).Holds Tryz.prog L2.ro := FSpec.holdsV (cfg := L2.cfg Tryz.prog) [] 20 200 cfg_ok mixed (t := aA6_3_t) aA6_3_tree (by
  show ∀ (v0 v1 : Int) , _
  intro v0 v1  hp hr hl
  replace hr : (((2) : Int) ≤ v0 ∧ v0 ≤ ((9223372036854775807) : Int)) ∧ (((6) : Int) ≤ v1 ∧ v1 ≤ ((9223372036854775807) : Int)) ∧ True := hr
  replace hl : True := hl
  show aA6_3_t.dn ⟨_, []⟩ 2 [v1, v0] 0 []
  rw [aA6_3_vc]
  repeat' first | refine And.intro ?_ ?_ | intro _
  all_goals trivial)
noncomputable def aA6_4_t : Tree := .done [] []
theorem aA6_4_tree : (L2.aA6_4).exe Tryz.prog (L2.cfg Tryz.prog) [] 20 200 = aA6_4_t := by kernel_rfl
theorem aA6_4_vc (Q : List Int → List (List Int) → Prop) (v0 v1 : Int) : aA6_4_t.dn ⟨Q, []⟩ 2 [v1, v0] 0 [] = (Q [] []) := by kernel_rfl
set_option maxHeartbeats 4000000 in
theorem aA6_4_holds : (L2.aA6_4).Holds Tryz.prog L2.ro := FSpec.holdsV (cfg := L2.cfg Tryz.prog) [] 20 200 cfg_ok mixed (t := aA6_4_t) aA6_4_tree (by
  show ∀ (v0 v1 : Int) , _
  intro v0 v1  hp hr hl
  replace hr : (((2) : Int) ≤ v0 ∧ v0 ≤ ((9223372036854775807) : Int)) ∧ (((6) : Int) ≤ v1 ∧ v1 ≤ ((9223372036854775807) : Int)) ∧ True := hr
  replace hl : True := hl
  show aA6_4_t.dn ⟨_, []⟩ 2 [v1, v0] 0 []
  rw [aA6_4_vc]
  repeat' first | refine And.intro ?_ ?_ | intro _
  all_goals trivial)
noncomputable def aA6_5_t : Tree := .done [] []
theorem aA6_5_tree : (L2.aA6_5).exe Tryz.prog (L2.cfg Tryz.prog) [] 20 200 = aA6_5_t := by kernel_rfl
theorem aA6_5_vc (Q : List Int → List (List Int) → Prop) (v0 v1 : Int) : aA6_5_t.dn ⟨Q, []⟩ 2 [v1, v0] 0 [] = (Q [] []) := by kernel_rfl
set_option maxHeartbeats 4000000 in
theorem aA6_5_holds : (L2.aA6_5).Holds Tryz.prog L2.ro := FSpec.holdsV (cfg := L2.cfg Tryz.prog) [] 20 200 cfg_ok mixed (t := aA6_5_t) aA6_5_tree (by
  show ∀ (v0 v1 : Int) , _
  intro v0 v1  hp hr hl
  replace hr : (((2) : Int) ≤ v0 ∧ v0 ≤ ((9223372036854775807) : Int)) ∧ (((6) : Int) ≤ v1 ∧ v1 ≤ ((9223372036854775807) : Int)) ∧ True := hr
  replace hl : True := hl
  show aA6_5_t.dn ⟨_, []⟩ 2 [v1, v0] 0 []
  rw [aA6_5_vc]
  repeat' first | refine And.intro ?_ ?_ | intro _
  all_goals trivial)
noncomputable def aF6_t : Tree := .done [] []
theorem aF6_tree : (L2.aF6).exe Tryz.prog (L2.cfg Tryz.prog) [] 20 200 = aF6_t := by kernel_rfl
theorem aF6_vc (Q : List Int → List (List Int) → Prop) (v0 v1 : Int) : aF6_t.dn ⟨Q, []⟩ 2 [v1, v0] 0 [] = (Q [] []) := by kernel_rfl
set_option maxHeartbeats 4000000 in
theorem aF6_holds : (L2.aF6).Holds Tryz.prog L2.ro := FSpec.holdsV (cfg := L2.cfg Tryz.prog) [] 20 200 cfg_ok mixed (t := aF6_t) aF6_tree (by
  show ∀ (v0 v1 : Int) , _
  intro v0 v1  hp hr hl
  replace hr : (((2) : Int) ≤ v0 ∧ v0 ≤ ((9223372036854775807) : Int)) ∧ (((6) : Int) ≤ v1 ∧ v1 ≤ ((9223372036854775807) : Int)) ∧ True := hr
  replace hl : True := hl
  show aF6_t.dn ⟨_, []⟩ 2 [v1, v0] 0 []
  rw [aF6_vc]
  repeat' first | refine And.intro ?_ ?_ | intro _
  all_goals trivial)
noncomputable def aB6_t : Tree := .done [] []
theorem aB6_tree : (L2.aB6).exe Tryz.prog (L2.cfg Tryz.prog) [] 20 200 = aB6_t := by kernel_rfl
theorem aB6_vc (Q : List Int → List (List Int) → Prop) (v0 v1 : Int) : aB6_t.dn ⟨Q, []⟩ 2 [v1, v0] 0 [] = (Q [] []) := by kernel_rfl
set_option maxHeartbeats 4000000 in
theorem aB6_holds : (L2.aB6).Holds Tryz.prog L2.ro := FSpec.holdsV (cfg := L2.cfg Tryz.prog) [] 20 200 cfg_ok mixed (t := aB6_t) aB6_tree (by
  show ∀ (v0 v1 : Int) , _
  intro v0 v1  hp hr hl
  replace hr : (((2) : Int) ≤ v0 ∧ v0 ≤ ((9223372036854775807) : Int)) ∧ (((6) : Int) ≤ v1 ∧ v1 ≤ ((9223372036854775807) : Int)) ∧ True := hr
  replace hl : True := hl
  show aB6_t.dn ⟨_, []⟩ 2 [v1, v0] 0 []
  rw [aB6_vc]
  repeat' first | refine And.intro ?_ ?_ | intro _
  all_goals trivial)
end Go.Proofs.YtbpilohnhhbbpaaGreatDoor
