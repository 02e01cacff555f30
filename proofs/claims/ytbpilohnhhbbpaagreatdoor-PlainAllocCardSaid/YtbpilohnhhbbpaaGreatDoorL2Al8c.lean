/- Contracts: calls at closed states. -/
import Derived.Test.YtbpilohnhhbbpaaGreatDoorL2Facts
import Derived.Test.YtbpilohnhhbbpaaGreatDoorSxM7
import Derived.Test.YtbpilohnhhbbpaaGreatDoorL2Al
set_option linter.unusedVariables false
set_option linter.constructorNameAsVariable false
set_option linter.unusedSimpArgs false
open Go Go.Sx
namespace Go.Proofs.YtbpilohnhhbbpaaGreatDoor
set_option maxRecDepth 100000
noncomputable def aR8_3_t : Tree := .done [] []
theorem aR8_3_tree : (L2.aR8_3).exe Tryz.prog (L2.cfg Tryz.prog) [] 20 200 = aR8_3_t := by kernel_rfl
theorem aR8_3_vc (Q : List Int → List (List Int) → Prop) (v0 v1 : Int) : aR8_3_t.dn ⟨Q, []⟩ 2 [v1, v0] 0 [] = (Q [] []) := by kernel_rfl
set_option maxHeartbeats 4000000 in
theorem aR8_3_holds : (L2.aR8_3).Holds Tryz.prog L2.ro := FSpec.holdsV (cfg := L2.cfg Tryz.prog) [] 20 200 cfg_ok mixed (t := aR8_3_t) aR8_3_tree (by
  show ∀ (v0 v1 : Int) , _
  intro v0 v1  hp hr hl
  replace hr : (((2) : Int) ≤ v0 ∧ v0 ≤ ((9223372036854775807) : Int)) ∧ (((8) : Int) ≤ v1 ∧ v1 ≤ ((9223372036854775807) : Int)) ∧ True := hr
  replace hl : True := hl
  show aR8_3_t.dn ⟨_, []⟩ 2 [v1, v0] 0 []
  rw [aR8_3_vc]
  repeat' first | refine And.intro ?_ ?_ | intro _
  all_goals trivial)
noncomputable def aD8_4_t : Tree := .any (.c 1) (.c 9223372036854775807) (.letI (.mul (.v 2) (.c 2)) (.any (.c 1) (.c 9223372036854775807) (.letI (.mul (.v 4) (.c 2)) (.done [] []))))
theorem aD8_4_tree : (L2.aD8_4).exe Tryz.prog (L2.cfg Tryz.prog) [] 20 200 = aD8_4_t := by kernel_rfl
theorem aD8_4_vc (Q : List Int → List (List Int) → Prop) (v0 v1 : Int) : aD8_4_t.dn ⟨Q, []⟩ 2 [v1, v0] 0 [] = (∀ v2 : Int, (1 : Int) ≤ v2 → v2 ≤ (9223372036854775807 : Int) → ∀ v3 : Int, v3 = v2 * (2 : Int) → ∀ v4 : Int, (1 : Int) ≤ v4 → v4 ≤ (9223372036854775807 : Int) → ∀ v5 : Int, v5 = v4 * (2 : Int) → Q [] []) := by kernel_rfl
set_option maxHeartbeats 4000000 in
theorem aD8_4_holds : (L2.aD8_4).Holds Tryz.prog L2.ro := FSpec.holdsV (cfg := L2.cfg Tryz.prog) [] 20 200 cfg_ok mixed (t := aD8_4_t) aD8_4_tree (by
  show ∀ (v0 v1 : Int) , _
  intro v0 v1  hp hr hl
  replace hr : (((2) : Int) ≤ v0 ∧ v0 ≤ ((9223372036854775807) : Int)) ∧ (((8) : Int) ≤ v1 ∧ v1 ≤ ((9223372036854775807) : Int)) ∧ True := hr
  replace hl : True := hl
  show aD8_4_t.dn ⟨_, []⟩ 2 [v1, v0] 0 []
  rw [aD8_4_vc]
  repeat' first | refine And.intro ?_ ?_ | intro _
  all_goals trivial)
noncomputable def aR8_4_t : Tree := .done [] []
theorem aR8_4_tree : (L2.aR8_4).exe Tryz.prog (L2.cfg Tryz.prog) [] 20 200 = aR8_4_t := by kernel_rfl
theorem aR8_4_vc (Q : List Int → List (List Int) → Prop) (v0 v1 : Int) : aR8_4_t.dn ⟨Q, []⟩ 2 [v1, v0] 0 [] = (Q [] []) := by kernel_rfl
set_option maxHeartbeats 4000000 in
theorem aR8_4_holds : (L2.aR8_4).Holds Tryz.prog L2.ro := FSpec.holdsV (cfg := L2.cfg Tryz.prog) [] 20 200 cfg_ok mixed (t := aR8_4_t) aR8_4_tree (by
  show ∀ (v0 v1 : Int) , _
  intro v0 v1  hp hr hl
  replace hr : (((2) : Int) ≤ v0 ∧ v0 ≤ ((9223372036854775807) : Int)) ∧ (((8) : Int) ≤ v1 ∧ v1 ≤ ((9223372036854775807) : Int)) ∧ True := hr
  replace hl : True := hl
  show aR8_4_t.dn ⟨_, []⟩ 2 [v1, v0] 0 []
  rw [aR8_4_vc]
  repeat' first | refine And.intro ?_ ?_ | intro _
  all_goals trivial)
noncomputable def aD8_5_t : Tree := .any (.c 1) (.c 9223372036854775807) (.letI (.mul (.v 2) (.c 2)) (.any (.c 1) (.c 9223372036854775807) (.letI (.mul (.v 4) (.c 2)) (.done [] []))))
theorem aD8_5_tree : (L2.aD8_5).exe Tryz.prog (L2.cfg Tryz.prog) [] 20 200 = aD8_5_t := by kernel_rfl
theorem aD8_5_vc (Q : List Int → List (List Int) → Prop) (v0 v1 : Int) : aD8_5_t.dn ⟨Q, []⟩ 2 [v1, v0] 0 [] = (∀ v2 : Int, (1 : Int) ≤ v2 → v2 ≤ (9223372036854775807 : Int) → ∀ v3 : Int, v3 = v2 * (2 : Int) → ∀ v4 : Int, (1 : Int) ≤ v4 → v4 ≤ (9223372036854775807 : Int) → ∀ v5 : Int, v5 = v4 * (2 : Int) → Q [] []) := by kernel_rfl
set_option maxHeartbeats 4000000 in
theorem aD8_5_holds : (L2.aD8_5).Holds Tryz.prog L2.ro := FSpec.holdsV (cfg := L2.cfg Tryz.prog) [] 20 200 cfg_ok mixed (t := aD8_5_t) aD8_5_tree (by
  show ∀ (v0 v1 : Int) , _
  intro v0 v1  hp hr hl
  replace hr : (((2) : Int) ≤ v0 ∧ v0 ≤ ((9223372036854775807) : Int)) ∧ (((8) : Int) ≤ v1 ∧ v1 ≤ ((9223372036854775807) : Int)) ∧ True := hr
  replace hl : True := hl
  show aD8_5_t.dn ⟨_, []⟩ 2 [v1, v0] 0 []
  rw [aD8_5_vc]
  repeat' first | refine And.intro ?_ ?_ | intro _
  all_goals trivial)
noncomputable def aR8_5_t : Tree := .done [] []
theorem aR8_5_tree : (L2.aR8_5).exe Tryz.prog (L2.cfg Tryz.prog) [] 20 200 = aR8_5_t := by kernel_rfl
theorem aR8_5_vc (Q : List Int → List (List Int) → Prop) (v0 v1 : Int) : aR8_5_t.dn ⟨Q, []⟩ 2 [v1, v0] 0 [] = (Q [] []) := by kernel_rfl
set_option maxHeartbeats 4000000 in
theorem aR8_5_holds : (L2.aR8_5).Holds Tryz.prog L2.ro := FSpec.holdsV (cfg := L2.cfg Tryz.prog) [] 20 200 cfg_ok mixed (t := aR8_5_t) aR8_5_tree (by
  show ∀ (v0 v1 : Int) , _
  intro v0 v1  hp hr hl
  replace hr : (((2) : Int) ≤ v0 ∧ v0 ≤ ((9223372036854775807) : Int)) ∧ (((8) : Int) ≤ v1 ∧ v1 ≤ ((9223372036854775807) : Int)) ∧ True := hr
  replace hl : True := hl
  show aR8_5_t.dn ⟨_, []⟩ 2 [v1, v0] 0 []
  rw [aR8_5_vc]
  repeat' first | refine And.intro ?_ ?_ | intro _
  all_goals trivial)
noncomputable def aD8_6_t : Tree := .any (.c 1) (.c 9223372036854775807) (.letI (.mul (.v 2) (.c 2)) (.any (.c 1) (.c 9223372036854775807) (.letI (.mul (.v 4) (.c 2)) (.done [] []))))
theorem aD8_6_tree : (L2.aD8_6).exe Tryz.prog (L2.cfg Tryz.prog) [] 20 200 = aD8_6_t := by kernel_rfl
theorem aD8_6_vc (Q : List Int → List (List Int) → Prop) (v0 v1 : Int) : aD8_6_t.dn ⟨Q, []⟩ 2 [v1, v0] 0 [] = (∀ v2 : Int, (1 : Int) ≤ v2 → v2 ≤ (9223372036854775807 : Int) → ∀ v3 : Int, v3 = v2 * (2 : Int) → ∀ v4 : Int, (1 : Int) ≤ v4 → v4 ≤ (9223372036854775807 : Int) → ∀ v5 : Int, v5 = v4 * (2 : Int) → Q [] []) := by kernel_rfl
set_option maxHeartbeats 4000000 in
theorem aD8_6_holds : (L2.aD8_6).Holds Tryz.prog L2.ro := FSpec.holdsV (cfg := L2.cfg Tryz.prog) [] 20 200 cfg_ok mixed (t := aD8_6_t) aD8_6_tree (by
  show ∀ (v0 v1 : Int) , _
  intro v0 v1  hp hr hl
  replace hr : (((2) : Int) ≤ v0 ∧ v0 ≤ ((9223372036854775807) : Int)) ∧ (((8) : Int) ≤ v1 ∧ v1 ≤ ((9223372036854775807) : Int)) ∧ True := hr
  replace hl : True := hl
  show aD8_6_t.dn ⟨_, []⟩ 2 [v1, v0] 0 []
  rw [aD8_6_vc]
  repeat' first | refine And.intro ?_ ?_ | intro _
  all_goals trivial)
noncomputable def aR8_6_t : Tree := .done [] []
theorem aR8_6_tree : (L2.aR8_6).exe Tryz.prog (L2.cfg Tryz.prog) [] 20 200 = aR8_6_t := by kernel_rfl
theorem aR8_6_vc (Q : List Int → List (List Int) → Prop) (v0 v1 : Int) : aR8_6_t.dn ⟨Q, []⟩ 2 [v1, v0] 0 [] = (Q [] []) := by kernel_rfl
set_option maxHeartbeats 4000000 in
theorem aR8_6_holds : (L2.aR8_6).Holds Tryz.prog L2.ro := FSpec.holdsV (cfg := L2.cfg Tryz.prog) [] 20 200 cfg_ok mixed (t := aR8_6_t) aR8_6_tree (by
  show ∀ (v0 v1 : Int) , _
  intro v0 v1  hp hr hl
  replace hr : (((2) : Int) ≤ v0 ∧ v0 ≤ ((9223372036854775807) : Int)) ∧ (((8) : Int) ≤ v1 ∧ v1 ≤ ((9223372036854775807) : Int)) ∧ True := hr
  replace hl : True := hl
  show aR8_6_t.dn ⟨_, []⟩ 2 [v1, v0] 0 []
  rw [aR8_6_vc]
  repeat' first | refine And.intro ?_ ?_ | intro _
  all_goals trivial)
noncomputable def aD8_7_t : Tree := .any (.c 1) (.c 9223372036854775807) (.letI (.mul (.v 2) (.c 2)) (.any (.c 1) (.c 9223372036854775807) (.letI (.mul (.v 4) (.c 2)) (.done [] []))))
theorem aD8_7_tree : (L2.aD8_7).exe Tryz.prog (L2.cfg Tryz.prog) [] 20 200 = aD8_7_t := by kernel_rfl
theorem aD8_7_vc (Q : List Int → List (List Int) → Prop) (v0 v1 : Int) : aD8_7_t.dn ⟨Q, []⟩ 2 [v1, v0] 0 [] = (∀ v2 : Int, (1 : Int) ≤ v2 → v2 ≤ (9223372036854775807 : Int) → ∀ v3 : Int, v3 = v2 * (2 : Int) → ∀ v4 : Int, (1 : Int) ≤ v4 → v4 ≤ (9223372036854775807 : Int) → ∀ v5 : Int, v5 = v4 * (2 : Int) → Q [] []) := by kernel_rfl
set_option maxHeartbeats 4000000 in
theorem aD8_7_holds : (L2.aD8_7).Holds Tryz.prog L2.ro := FSpec.holdsV (cfg := L2.cfg Tryz.prog) [] 20 200 cfg_ok mixed (t := aD8_7_t) aD8_7_tree (by
  show ∀ (v0 v1 : Int) , _
  intro v0 v1  hp hr hl
  replace hr : (((2) : Int) ≤ v0 ∧ v0 ≤ ((9223372036854775807) : Int)) ∧ (((8) : Int) ≤ v1 ∧ v1 ≤ ((9223372036854775807) : Int)) ∧ True := hr
  replace hl : True := hl
  show aD8_7_t.dn ⟨_, []⟩ 2 [v1, v0] 0 []
  rw [aD8_7_vc]
  repeat' first | refine And.intro ?_ ?_ | intro _
  all_goals trivial)
noncomputable def aR8_7_t : Tree := .done [] []
theorem aR8_7_tree : (L2.aR8_7).exe Tryz.prog (L2.cfg Tryz.prog) [] 20 200 = aR8_7_t := by kernel_rfl
theorem aR8_7_vc (Q : List Int → List (List Int) → Prop) (v0 v1 : Int) : aR8_7_t.dn ⟨Q, []⟩ 2 [v1, v0] 0 [] = (Q [] []) := by kernel_rfl
set_option maxHeartbeats 4000000 in
theorem aR8_7_holds : (L2.aR8_7).Holds Tryz.prog L2.ro := FSpec.holdsV (cfg := L2.cfg Tryz.prog) [] 20 200 cfg_ok mixed (t := aR8_7_t) aR8_7_tree (by
  show ∀ (v0 v1 : Int) , _
  intro v0 v1  hp hr hl
  replace hr : (((2) : Int) ≤ v0 ∧ v0 ≤ ((9223372036854775807) : Int)) ∧ (((8) : Int) ≤ v1 ∧ v1 ≤ ((9223372036854775807) : Int)) ∧ True := hr
  replace hl : True := hl
  show aR8_7_t.dn ⟨_, []⟩ 2 [v1, v0] 0 []
  rw [aR8_7_vc]
  repeat' first | refine And.intro ?_ ?_ | intro _
  all_goals trivial)
end Go.Proofs.YtbpilohnhhbbpaaGreatDoor
