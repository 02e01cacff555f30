/- Contracts: calls at closed states. -/
import Derived.Test.YtbeeilndeglnhaaGreatDoorL2Facts
import Derived.Test.YtbeeilndeglnhaaGreatDoorSxM7
import Derived.Test.YtbeeilndeglnhaaGreatDoorL2Z
set_option linter.unusedVariables false
set_option linter.unusedSimpArgs false
open Go Go.Sx
namespace Go.Proofs.YtbeeilndeglnhaaGreatDoor
set_option maxRecDepth 100000
noncomputable def zA0_t : Tree := .done [] []
theorem zA0_tree : (L2.zA0).exe Tryz.prog (L2.cfg Tryz.prog) [] 20 200 = zA0_t := by kernel_rfl
theorem zA0_vc (Q : List Int → List (List Int) → Prop) (v0 v1 : Int) : zA0_t.dn ⟨Q, []⟩ 2 [v1, v0] 0 [] = (Q [] []) := by kernel_rfl
set_option maxHeartbeats 4000000 in
theorem zA0_holds : (L2.zA0).Holds Tryz.prog L2.ro := FSpec.holdsV (cfg := L2.cfg Tryz.prog) [] 20 200 cfg_ok mixed (t := zA0_t) zA0_tree (by
  show ∀ (v0 v1 : Int) , _
  intro v0 v1  hp hr hl
  replace hr : (((2) : Int) ≤ v0 ∧ v0 ≤ ((9223372036854775807) : Int)) ∧ (((1) : Int) ≤ v1 ∧ v1 ≤ ((9223372036854775807) : Int)) ∧ True := hr
  replace hl : True := hl
  show zA0_t.dn ⟨_, []⟩ 2 [v1, v0] 0 []
  rw [zA0_vc]
  repeat' first | refine And.intro ?_ ?_ | intro _
  all_goals trivial)
noncomputable def zD0_t : Tree := .done [] []
theorem zD0_tree : (L2.zD0).exe Tryz.prog (L2.cfg Tryz.prog) [] 20 200 = zD0_t := by kernel_rfl
theorem zD0_vc (Q : List Int → List (List Int) → Prop) (v0 v1 : Int) : zD0_t.dn ⟨Q, []⟩ 2 [v1, v0] 0 [] = (Q [] []) := by kernel_rfl
set_option maxHeartbeats 4000000 in
theorem zD0_holds : (L2.zD0).Holds Tryz.prog L2.ro := FSpec.holdsV (cfg := L2.cfg Tryz.prog) [] 20 200 cfg_ok mixed (t := zD0_t) zD0_tree (by
  show ∀ (v0 v1 : Int) , _
  intro v0 v1  hp hr hl
  replace hr : (((2) : Int) ≤ v0 ∧ v0 ≤ ((9223372036854775807) : Int)) ∧ (((1) : Int) ≤ v1 ∧ v1 ≤ ((9223372036854775807) : Int)) ∧ True := hr
  replace hl : True := hl
  show zD0_t.dn ⟨_, []⟩ 2 [v1, v0] 0 []
  rw [zD0_vc]
  repeat' first | refine And.intro ?_ ?_ | intro _
  all_goals trivial)
noncomputable def zD1_t : Tree := .done [] []
theorem zD1_tree : (L2.zD1).exe Tryz.prog (L2.cfg Tryz.prog) [] 20 200 = zD1_t := by kernel_rfl
theorem zD1_vc (Q : List Int → List (List Int) → Prop) (v0 v1 : Int) : zD1_t.dn ⟨Q, []⟩ 2 [v1, v0] 0 [] = (Q [] []) := by kernel_rfl
set_option maxHeartbeats 4000000 in
theorem zD1_holds : (L2.zD1).Holds Tryz.prog L2.ro := FSpec.holdsV (cfg := L2.cfg Tryz.prog) [] 20 200 cfg_ok mixed (t := zD1_t) zD1_tree (by
  show ∀ (v0 v1 : Int) , _
  intro v0 v1  hp hr hl
  replace hr : (((2) : Int) ≤ v0 ∧ v0 ≤ ((9223372036854775807) : Int)) ∧ (((1) : Int) ≤ v1 ∧ v1 ≤ ((9223372036854775807) : Int)) ∧ True := hr
  replace hl : True := hl
  show zD1_t.dn ⟨_, []⟩ 2 [v1, v0] 0 []
  rw [zD1_vc]
  repeat' first | refine And.intro ?_ ?_ | intro _
  all_goals trivial)
noncomputable def zD2_t : Tree := .done [] []
theorem zD2_tree : (L2.zD2).exe Tryz.prog (L2.cfg Tryz.prog) [] 20 200 = zD2_t := by kernel_rfl
theorem zD2_vc (Q : List Int → List (List Int) → Prop) (v0 v1 : Int) : zD2_t.dn ⟨Q, []⟩ 2 [v1, v0] 0 [] = (Q [] []) := by kernel_rfl
set_option maxHeartbeats 4000000 in
theorem zD2_holds : (L2.zD2).Holds Tryz.prog L2.ro := FSpec.holdsV (cfg := L2.cfg Tryz.prog) [] 20 200 cfg_ok mixed (t := zD2_t) zD2_tree (by
  show ∀ (v0 v1 : Int) , _
  intro v0 v1  hp hr hl
  replace hr : (((2) : Int) ≤ v0 ∧ v0 ≤ ((9223372036854775807) : Int)) ∧ (((1) : Int) ≤ v1 ∧ v1 ≤ ((9223372036854775807) : Int)) ∧ True := hr
  replace hl : True := hl
  show zD2_t.dn ⟨_, []⟩ 2 [v1, v0] 0 []
  rw [zD2_vc]
  repeat' first | refine And.intro ?_ ?_ | intro _
  all_goals trivial)
end Go.Proofs.YtbeeilndeglnhaaGreatDoor
