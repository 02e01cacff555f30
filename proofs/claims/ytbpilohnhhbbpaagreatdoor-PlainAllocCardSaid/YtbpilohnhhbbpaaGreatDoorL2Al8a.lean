/- Contracts: calls at closed states. -/
import Derived.Test.YtbpilohnhhbbpaaGreatDoorL2Facts
import Derived.Test.YtbpilohnhhbbpaaGreatDoorSxM7
import Derived.Test.YtbpilohnhhbbpaaGreatDoorL2Al
set_option linter.unusedVariables false
set_option linter.constructorNameAsVariable false
set_option linter.unusedSimpArgs false
open Go Go.Sx
namespace Go.Proofs.YtbpilohnhhbbpaaGreatDoor
set_option maxRecDepth 100000
noncomputable def aN8_t : Tree := .any (.c 1) (.c 9223372036854775807) (.any (.c 2) (.c 9223372036854775807) (.any (.c 3) (.c 9223372036854775807) (.any (.c 4) (.c 9223372036854775807) (.any (.c 5) (.c 9223372036854775807) (.any (.c 6) (.c 9223372036854775807) (.any (.c 7) (.c 9223372036854775807) (.any (.c 8) (.c 9223372036854775807) (.any (.c 1) (.c 9223372036854775807) (.any (.c 2) (.c 9223372036854775807) (.done [.v 9, .v 7] []))))))))))
theorem aN8_tree : (L2.aN8).exe Tryz.prog (L2.cfg Tryz.prog) [] 20 200 = aN8_t := by kernel_rfl
theorem aN8_vc (Q : List Int → List (List Int) → Prop) : aN8_t.dn ⟨Q, []⟩ 0 [] 0 [] = (∀ v0 : Int, (1 : Int) ≤ v0 → v0 ≤ (9223372036854775807 : Int) → ∀ v1 : Int, (2 : Int) ≤ v1 → v1 ≤ (9223372036854775807 : Int) → ∀ v2 : Int, (3 : Int) ≤ v2 → v2 ≤ (9223372036854775807 : Int) → ∀ v3 : Int, (4 : Int) ≤ v3 → v3 ≤ (9223372036854775807 : Int) → ∀ v4 : Int, (5 : Int) ≤ v4 → v4 ≤ (9223372036854775807 : Int) → ∀ v5 : Int, (6 : Int) ≤ v5 → v5 ≤ (9223372036854775807 : Int) → ∀ v6 : Int, (7 : Int) ≤ v6 → v6 ≤ (9223372036854775807 : Int) → ∀ v7 : Int, (8 : Int) ≤ v7 → v7 ≤ (9223372036854775807 : Int) → ∀ v8 : Int, (1 : Int) ≤ v8 → v8 ≤ (9223372036854775807 : Int) → ∀ v9 : Int, (2 : Int) ≤ v9 → v9 ≤ (9223372036854775807 : Int) → Q [v9, v7] []) := by kernel_rfl
set_option maxHeartbeats 4000000 in
theorem aN8_holds : (L2.aN8).Holds Tryz.prog L2.ro := FSpec.holdsV (cfg := L2.cfg Tryz.prog) [] 20 200 cfg_ok mixed (t := aN8_t) aN8_tree (by
  show _ → _
  intro   hp hr hl
  replace hr : True := hr
  replace hl : True := hl
  show aN8_t.dn ⟨_, []⟩ 0 [] 0 []
  rw [aN8_vc]
  repeat' first | refine And.intro ?_ ?_ | intro _
  all_goals trivial)
noncomputable def aA8_0_t : Tree := .done [] []
theorem aA8_0_tree : (L2.aA8_0).exe Tryz.prog (L2.cfg Tryz.prog) [] 20 200 = aA8_0_t := by kernel_rfl
theorem aA8_0_vc (Q : List Int → List (List Int) → Prop) (v0 v1 : Int) : aA8_0_t.dn ⟨Q, []⟩ 2 [v1, v0] 0 [] = (Q [] []) := by kernel_rfl
set_option maxHeartbeats 4000000 in
theorem aA8_0_holds : (L2.aA8_0).Holds Tryz.prog L2.ro := FSpec.holdsV (cfg := L2.cfg Tryz.prog) [] 20 200 cfg_ok mixed (t := aA8_0_t) aA8_0_tree (by
  show ∀ (v0 v1 : Int) , _
  intro v0 v1  hp hr hl
  replace hr : (((2) : Int) ≤ v0 ∧ v0 ≤ ((9223372036854775807) : Int)) ∧ (((8) : Int) ≤ v1 ∧ v1 ≤ ((9223372036854775807) : Int)) ∧ True := hr
  replace hl : True := hl
  show aA8_0_t.dn ⟨_, []⟩ 2 [v1, v0] 0 []
  rw [aA8_0_vc]
  repeat' first | refine And.intro ?_ ?_ | intro _
  all_goals trivial)
noncomputable def aA8_1_t : Tree := .done [] []
theorem aA8_1_tree : (L2.aA8_1).exe Tryz.prog (L2.cfg Tryz.prog) [] 20 200 = aA8_1_t := by kernel_rfl
theorem aA8_1_vc (Q : List Int → List (List Int) → Prop) (v0 v1 : Int) : aA8_1_t.dn ⟨Q, []⟩ 2 [v1, v0] 0 [] = (Q [] []) := by kernel_rfl
set_option maxHeartbeats 4000000 in
theorem aA8_1_holds : (L2.aA8_1).Holds Tryz.prog L2.ro := FSpec.holdsV (cfg := L2.cfg Tryz.prog) [] 20 200 cfg_ok mixed (t := aA8_1_t) aA8_1_tree (by
  show ∀ (v0 v1 : Int) , _
  intro v0 v1  hp hr hl
  replace hr : (((2) : Int) ≤ v0 ∧ v0 ≤ ((9223372036854775807) : Int)) ∧ (((8) : Int) ≤ v1 ∧ v1 ≤ ((9223372036854775807) : Int)) ∧ True := hr
  replace hl : True := hl
  show aA8_1_t.dn ⟨_, []⟩ 2 [v1, v0] 0 []
  rw [aA8_1_vc]
  repeat' first | refine And.intro ?_ ?_ | intro _
  all_goals trivial)
noncomputable def aA8_2_t : Tree := .done [] []
theorem aA8_2_tree : (L2.aA8_2).exe Tryz.prog (L2.cfg Tryz.prog) [] 20 200 = aA8_2_t := by kernel_rfl
theorem aA8_2_vc (Q : List Int → List (List Int) → Prop) (v0 v1 : Int) : aA8_2_t.dn ⟨Q, []⟩ 2 [v1, v0] 0 [] = (Q [] []) := by kernel_rfl
set_option maxHeartbeats 4000000 in
theorem aA8_2_holds : (L2.aA8_2).Holds Tryz.prog L2.ro := FSpec.holdsV (cfg := L2.cfg Tryz.prog) [] 20 200 cfg_ok mixed (t := aA8_2_t) aA8_2_tree (by
  show ∀ (v0 v1 : Int) , _
  intro v0 v1  hp hr hl
  replace hr : (((2) : Int) ≤ v0 ∧ v0 ≤ ((9223372036854775807) : Int)) ∧ (((8) : Int) ≤ v1 ∧ v1 ≤ ((9223372036854775807) : Int)) ∧ True := hr
  replace hl : True := hl
  show aA8_2_t.dn ⟨_, []⟩ 2 [v1, v0] 0 []
  rw [aA8_2_vc]
  repeat' first | refine And.intro ?_ ?_ | intro _
  all_goals trivial)
noncomputable def aA8_3_t : Tree := .done [] []
theorem aA8_3_tree : (L2.aA8_3).exe Tryz.prog (L2.cfg Tryz.prog) [] 20 200 = aA8_3_t := by kernel_rfl
theorem aA8_3_vc (Q : List Int → List (List Int) → Prop) (v0 v1 : Int) : aA8_3_t.dn ⟨Q, []⟩ 2 [v1, v0] 0 [] = (Q [] []) := by kernel_rfl
set_option maxHeartbeats 4000000 in
theorem aA8_3_holds : (L2.aA8_3).Holds Tryz.prog L2.ro := FSpec.holdsV (cfg := L2.cfg Tryz.prog) [] 20 200 cfg_ok mixed (t := aA8_3_t) aA8_3_tree (by
  show ∀ (v0 v1 : Int) , _
  intro v0 v1  hp hr hl
  replace hr : (((2) : Int) ≤ v0 ∧ v0 ≤ ((9223372036854775807) : Int)) ∧ (((8) : Int) ≤ v1 ∧ v1 ≤ ((9223372036854775807) : Int)) ∧ True := hr
  replace hl : True := hl
  show aA8_3_t.dn ⟨_, []⟩ 2 [v1, v0] 0 []
  rw [aA8_3_vc]
  repeat' first | refine And.intro ?_ ?_ | intro _
  all_goals trivial)
noncomputable def aA8_4_t : Tree := .done [] []
theorem aA8_4_tree : (L2.aA8_4).exe Tryz.prog (L2.cfg Tryz.prog) [] 20 200 = aA8_4_t := by kernel_rfl
theorem aA8_4_vc (Q : List Int → List (List Int) → Prop) (v0 v1 : Int) : aA8_4_t.dn ⟨Q, []⟩ 2 [v1, v0] 0 [] = (Q [] []) := by kernel_rfl
set_option maxHeartbeats 4000000 in
theorem aA8_4_holds : (L2.aA8_4).Holds Tryz.prog L2.ro := FSpec.holdsV (cfg := L2.cfg Tryz.prog) [] 20 200 cfg_ok mixed (t := aA8_4_t) aA8_4_tree (by
  show ∀ (v0 v1 : Int) , _
  intro v0 v1  hp hr hl
  replace hr : (((2) : Int) ≤ v0 ∧ v0 ≤ ((9223372036854775807) : Int)) ∧ (((8) : Int) ≤ v1 ∧ v1 ≤ ((9223372036854775807) : Int)) ∧ True := hr
  replace hl : True := hl
  show aA8_4_t.dn ⟨_, []⟩ 2 [v1, v0] 0 []
  rw [aA8_4_vc]
  repeat' first | refine And.intro ?_ ?_ | intro _
  all_goals trivial)
noncomputable def aA8_5_t : Tree := .done [] []
theorem aA8_5_tree : (L2.aA8_5).exe Tryz.prog (L2.cfg Tryz.prog) [] 20 200 = aA8_5_t := by kernel_rfl
theorem aA8_5_vc (Q : List Int → List (List Int) → Prop) (v0 v1 : Int) : aA8_5_t.dn ⟨Q, []⟩ 2 [v1, v0] 0 [] = (Q [] []) := by kernel_rfl
set_option maxHeartbeats 4000000 in
theorem aA8_5_holds : (L2.aA8_5).Holds Tryz.prog L2.ro := FSpec.holdsV (cfg := L2.cfg Tryz.prog) [] 20 200 cfg_ok mixed (t := aA8_5_t) aA8_5_tree (by
  show ∀ (v0 v1 : Int) , _
  intro v0 v1  hp hr hl
  replace hr : (((2) : Int) ≤ v0 ∧ v0 ≤ ((9223372036854775807) : Int)) ∧ (((8) : Int) ≤ v1 ∧ v1 ≤ ((9223372036854775807) : Int)) ∧ True := hr
  replace hl : True := hl
  show aA8_5_t.dn ⟨_, []⟩ 2 [v1, v0] 0 []
  rw [aA8_5_vc]
  repeat' first | refine And.intro ?_ ?_ | intro _
  all_goals trivial)
noncomputable def aA8_6_t : Tree := .done [] []
theorem aA8_6_tree : (L2.aA8_6).exe Tryz.prog (L2.cfg Tryz.prog) [] 20 200 = aA8_6_t := by kernel_rfl
theorem aA8_6_vc (Q : List Int → List (List Int) → Prop) (v0 v1 : Int) : aA8_6_t.dn ⟨Q, []⟩ 2 [v1, v0] 0 [] = (Q [] []) := by kernel_rfl
set_option maxHeartbeats 4000000 in
theorem aA8_6_holds : (L2.aA8_6).Holds Tryz.prog L2.ro := FSpec.holdsV (cfg := L2.cfg Tryz.prog) [] 20 200 cfg_ok mixed (t := aA8_6_t) aA8_6_tree (by
  show ∀ (v0 v1 : Int) , _
  intro v0 v1  hp hr hl
  replace hr : (((2) : Int) ≤ v0 ∧ v0 ≤ ((9223372036854775807) : Int)) ∧ (((8) : Int) ≤ v1 ∧ v1 ≤ ((9223372036854775807) : Int)) ∧ True := hr
  replace hl : True := hl
  show aA8_6_t.dn ⟨_, []⟩ 2 [v1, v0] 0 []
  rw [aA8_6_vc]
  repeat' first | refine And.intro ?_ ?_ | intro _
  all_goals trivial)
noncomputable def aA8_7_t : Tree := .done [] []
theorem aA8_7_tree : (L2.aA8_7).exe Tryz.prog (L2.cfg Tryz.prog) [] 20 200 = aA8_7_t := by kernel_rfl
theorem aA8_7_vc (Q : List Int → List (List Int) → Prop) (v0 v1 : Int) : aA8_7_t.dn ⟨Q, []⟩ 2 [v1, v0] 0 [] = (Q [] []) := by kernel_rfl
set_option maxHeartbeats 4000000 in
theorem aA8_7_holds : (L2.aA8_7).Holds Tryz.prog L2.ro := FSpec.holdsV (cfg := L2.cfg Tryz.prog) [] 20 200 cfg_ok mixed (t := aA8_7_t) aA8_7_tree (by
  show ∀ (v0 v1 : Int) , _
  intro v0 v1  hp hr hl
  replace hr : (((2) : Int) ≤ v0 ∧ v0 ≤ ((9223372036854775807) : Int)) ∧ (((8) : Int) ≤ v1 ∧ v1 ≤ ((9223372036854775807) : Int)) ∧ True := hr
  replace hl : True := hl
  show aA8_7_t.dn ⟨_, []⟩ 2 [v1, v0] 0 []
  rw [aA8_7_vc]
  repeat' first | refine And.intro ?_ ?_ | intro _
  all_goals trivial)
end Go.Proofs.YtbpilohnhhbbpaaGreatDoor
