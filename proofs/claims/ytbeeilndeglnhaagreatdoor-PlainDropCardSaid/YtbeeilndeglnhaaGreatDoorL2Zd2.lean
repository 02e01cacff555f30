/- Contracts: calls at closed states. -/
import Derived.Test.YtbeeilndeglnhaaGreatDoorL2Facts
import Derived.Test.YtbeeilndeglnhaaGreatDoorSxM7
import Derived.Test.YtbeeilndeglnhaaGreatDoorL2Z
set_option linter.unusedVariables false
set_option linter.unusedSimpArgs false
open Go Go.Sx
namespace Go.Proofs.YtbeeilndeglnhaaGreatDoor
set_option maxRecDepth 100000
noncomputable def zE0_t : Tree := .any (.c 1) (.c 9223372036854775807) (.letI (.mul (.v 2) (.c 2)) (.any (.c 2) (.c 9223372036854775807) (.letI (.mul (.v 4) (.c 2)) (.any (.c 3) (.c 9223372036854775807) (.letI (.mul (.v 6) (.c 2)) (.any (.c 1) (.c 9223372036854775807) (.letI (.mul (.v 8) (.c 2)) (.any (.c 4) (.c 9223372036854775807) (.letI (.mul (.v 10) (.c 2)) (.any (.c 1) (.c 9223372036854775807) (.any (.c 1) (.c 9223372036854775807) (.any (.c 1) (.c 9223372036854775807) (.any (.c 1) (.c 9223372036854775807) (.done [] []))))))))))))))
theorem zE0_tree : (L2.zE0).exe Tryz.prog (L2.cfg Tryz.prog) [] 20 200 = zE0_t := by kernel_rfl
theorem zE0_vc (Q : List Int → List (List Int) → Prop) (v0 v1 : Int) : zE0_t.dn ⟨Q, []⟩ 2 [v1, v0] 0 [] = (∀ v2 : Int, (1 : Int) ≤ v2 → v2 ≤ (9223372036854775807 : Int) → ∀ v3 : Int, v3 = v2 * (2 : Int) → ∀ v4 : Int, (2 : Int) ≤ v4 → v4 ≤ (9223372036854775807 : Int) → ∀ v5 : Int, v5 = v4 * (2 : Int) → ∀ v6 : Int, (3 : Int) ≤ v6 → v6 ≤ (9223372036854775807 : Int) → ∀ v7 : Int, v7 = v6 * (2 : Int) → ∀ v8 : Int, (1 : Int) ≤ v8 → v8 ≤ (9223372036854775807 : Int) → ∀ v9 : Int, v9 = v8 * (2 : Int) → ∀ v10 : Int, (4 : Int) ≤ v10 → v10 ≤ (9223372036854775807 : Int) → ∀ v11 : Int, v11 = v10 * (2 : Int) → ∀ v12 : Int, (1 : Int) ≤ v12 → v12 ≤ (9223372036854775807 : Int) → ∀ v13 : Int, (1 : Int) ≤ v13 → v13 ≤ (9223372036854775807 : Int) → ∀ v14 : Int, (1 : Int) ≤ v14 → v14 ≤ (9223372036854775807 : Int) → ∀ v15 : Int, (1 : Int) ≤ v15 → v15 ≤ (9223372036854775807 : Int) → Q [] []) := by kernel_rfl
set_option maxHeartbeats 4000000 in
theorem zE0_holds : (L2.zE0).Holds Tryz.prog L2.ro := FSpec.holdsV (cfg := L2.cfg Tryz.prog) [] 20 200 cfg_ok mixed (t := zE0_t) zE0_tree (by
  show ∀ (v0 v1 : Int) , _
  intro v0 v1  hp hr hl
  replace hr : (((2) : Int) ≤ v0 ∧ v0 ≤ ((9223372036854775807) : Int)) ∧ (((1) : Int) ≤ v1 ∧ v1 ≤ ((9223372036854775807) : Int)) ∧ True := hr
  replace hl : True := hl
  show zE0_t.dn ⟨_, []⟩ 2 [v1, v0] 0 []
  rw [zE0_vc]
  repeat' first | refine And.intro ?_ ?_ | intro _
  all_goals trivial)
noncomputable def zE1_t : Tree := .any (.c 1) (.c 9223372036854775807) (.letI (.mul (.v 2) (.c 2)) (.any (.c 2) (.c 9223372036854775807) (.letI (.mul (.v 4) (.c 2)) (.any (.c 1) (.c 9223372036854775807) (.letI (.mul (.v 6) (.c 2)) (.any (.c 3) (.c 9223372036854775807) (.letI (.mul (.v 8) (.c 2)) (.any (.c 1) (.c 9223372036854775807) (.any (.c 1) (.c 9223372036854775807) (.any (.c 1) (.c 9223372036854775807) (.done [] [])))))))))))
theorem zE1_tree : (L2.zE1).exe Tryz.prog (L2.cfg Tryz.prog) [] 20 200 = zE1_t := by kernel_rfl
theorem zE1_vc (Q : List Int → List (List Int) → Prop) (v0 v1 : Int) : zE1_t.dn ⟨Q, []⟩ 2 [v1, v0] 0 [] = (∀ v2 : Int, (1 : Int) ≤ v2 → v2 ≤ (9223372036854775807 : Int) → ∀ v3 : Int, v3 = v2 * (2 : Int) → ∀ v4 : Int, (2 : Int) ≤ v4 → v4 ≤ (9223372036854775807 : Int) → ∀ v5 : Int, v5 = v4 * (2 : Int) → ∀ v6 : Int, (1 : Int) ≤ v6 → v6 ≤ (9223372036854775807 : Int) → ∀ v7 : Int, v7 = v6 * (2 : Int) → ∀ v8 : Int, (3 : Int) ≤ v8 → v8 ≤ (9223372036854775807 : Int) → ∀ v9 : Int, v9 = v8 * (2 : Int) → ∀ v10 : Int, (1 : Int) ≤ v10 → v10 ≤ (9223372036854775807 : Int) → ∀ v11 : Int, (1 : Int) ≤ v11 → v11 ≤ (9223372036854775807 : Int) → ∀ v12 : Int, (1 : Int) ≤ v12 → v12 ≤ (9223372036854775807 : Int) → Q [] []) := by kernel_rfl
set_option maxHeartbeats 4000000 in
theorem zE1_holds : (L2.zE1).Holds Tryz.prog L2.ro := FSpec.holdsV (cfg := L2.cfg Tryz.prog) [] 20 200 cfg_ok mixed (t := zE1_t) zE1_tree (by
  show ∀ (v0 v1 : Int) , _
  intro v0 v1  hp hr hl
  replace hr : (((2) : Int) ≤ v0 ∧ v0 ≤ ((9223372036854775807) : Int)) ∧ (((1) : Int) ≤ v1 ∧ v1 ≤ ((9223372036854775807) : Int)) ∧ True := hr
  replace hl : True := hl
  show zE1_t.dn ⟨_, []⟩ 2 [v1, v0] 0 []
  rw [zE1_vc]
  repeat' first | refine And.intro ?_ ?_ | intro _
  all_goals trivial)
noncomputable def zE2_t : Tree := .any (.c 1) (.c 9223372036854775807) (.letI (.mul (.v 2) (.c 2)) (.any (.c 1) (.c 9223372036854775807) (.letI (.mul (.v 4) (.c 2)) (.any (.c 2) (.c 9223372036854775807) (.letI (.mul (.v 6) (.c 2)) (.any (.c 1) (.c 9223372036854775807) (.any (.c 1) (.c 9223372036854775807) (.done [] []))))))))
theorem zE2_tree : (L2.zE2).exe Tryz.prog (L2.cfg Tryz.prog) [] 20 200 = zE2_t := by kernel_rfl
theorem zE2_vc (Q : List Int → List (List Int) → Prop) (v0 v1 : Int) : zE2_t.dn ⟨Q, []⟩ 2 [v1, v0] 0 [] = (∀ v2 : Int, (1 : Int) ≤ v2 → v2 ≤ (9223372036854775807 : Int) → ∀ v3 : Int, v3 = v2 * (2 : Int) → ∀ v4 : Int, (1 : Int) ≤ v4 → v4 ≤ (9223372036854775807 : Int) → ∀ v5 : Int, v5 = v4 * (2 : Int) → ∀ v6 : Int, (2 : Int) ≤ v6 → v6 ≤ (9223372036854775807 : Int) → ∀ v7 : Int, v7 = v6 * (2 : Int) → ∀ v8 : Int, (1 : Int) ≤ v8 → v8 ≤ (9223372036854775807 : Int) → ∀ v9 : Int, (1 : Int) ≤ v9 → v9 ≤ (9223372036854775807 : Int) → Q [] []) := by kernel_rfl
set_option maxHeartbeats 4000000 in
theorem zE2_holds : (L2.zE2).Holds Tryz.prog L2.ro := FSpec.holdsV (cfg := L2.cfg Tryz.prog) [] 20 200 cfg_ok mixed (t := zE2_t) zE2_tree (by
  show ∀ (v0 v1 : Int) , _
  intro v0 v1  hp hr hl
  replace hr : (((2) : Int) ≤ v0 ∧ v0 ≤ ((9223372036854775807) : Int)) ∧ (((1) : Int) ≤ v1 ∧ v1 ≤ ((9223372036854775807) : Int)) ∧ True := hr
  replace hl : True := hl
  show zE2_t.dn ⟨_, []⟩ 2 [v1, v0] 0 []
  rw [zE2_vc]
  repeat' first | refine And.intro ?_ ?_ | intro _
  all_goals trivial)
noncomputable def zE3_t : Tree := .any (.c 1) (.c 9223372036854775807) (.letI (.mul (.v 2) (.c 2)) (.any (.c 1) (.c 9223372036854775807) (.letI (.mul (.v 4) (.c 2)) (.any (.c 1) (.c 9223372036854775807) (.done [] [])))))
theorem zE3_tree : (L2.zE3).exe Tryz.prog (L2.cfg Tryz.prog) [] 20 200 = zE3_t := by kernel_rfl
theorem zE3_vc (Q : List Int → List (List Int) → Prop) (v0 v1 : Int) : zE3_t.dn ⟨Q, []⟩ 2 [v1, v0] 0 [] = (∀ v2 : Int, (1 : Int) ≤ v2 → v2 ≤ (9223372036854775807 : Int) → ∀ v3 : Int, v3 = v2 * (2 : Int) → ∀ v4 : Int, (1 : Int) ≤ v4 → v4 ≤ (9223372036854775807 : Int) → ∀ v5 : Int, v5 = v4 * (2 : Int) → ∀ v6 : Int, (1 : Int) ≤ v6 → v6 ≤ (9223372036854775807 : Int) → Q [] []) := by kernel_rfl
set_option maxHeartbeats 4000000 in
theorem zE3_holds : (L2.zE3).Holds Tryz.prog L2.ro := FSpec.holdsV (cfg := L2.cfg Tryz.prog) [] 20 200 cfg_ok mixed (t := zE3_t) zE3_tree (by
  show ∀ (v0 v1 : Int) , _
  intro v0 v1  hp hr hl
  replace hr : (((2) : Int) ≤ v0 ∧ v0 ≤ ((9223372036854775807) : Int)) ∧ (((1) : Int) ≤ v1 ∧ v1 ≤ ((9223372036854775807) : Int)) ∧ True := hr
  replace hl : True := hl
  show zE3_t.dn ⟨_, []⟩ 2 [v1, v0] 0 []
  rw [zE3_vc]
  repeat' first | refine And.intro ?_ ?_ | intro _
  all_goals trivial)
end Go.Proofs.YtbeeilndeglnhaaGreatDoor
