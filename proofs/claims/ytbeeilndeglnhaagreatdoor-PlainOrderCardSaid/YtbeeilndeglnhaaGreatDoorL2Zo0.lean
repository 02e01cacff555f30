/- Contracts: calls at closed states. -/
import Derived.Test.YtbeeilndeglnhaaGreatDoorL2Facts
import Derived.Test.YtbeeilndeglnhaaGreatDoorSxM7
import Derived.Test.YtbeeilndeglnhaaGreatDoorL2Z
set_option linter.unusedVariables false
set_option linter.unusedSimpArgs false
open Go Go.Sx
namespace Go.Proofs.YtbeeilndeglnhaaGreatDoor
set_option maxRecDepth 100000
noncomputable def zO0_t : Tree := .done [] []
theorem zO0_tree : (L2.zO0).exe Tryz.prog (L2.cfg Tryz.prog) [] 20 200 = zO0_t := by kernel_rfl
theorem zO0_vc (Q : List Int → List (List Int) → Prop) (v0 v1 : Int) : zO0_t.dn ⟨Q, []⟩ 2 [v1, v0] 0 [] = (Q [] []) := by kernel_rfl
set_option maxHeartbeats 4000000 in
theorem zO0_holds : (L2.zO0).Holds Tryz.prog L2.ro := FSpec.holdsV (cfg := L2.cfg Tryz.prog) [] 20 200 cfg_ok mixed (t := zO0_t) zO0_tree (by
  show ∀ (v0 v1 : Int) , _
  intro v0 v1  hp hr hl
  replace hr : (((2) : Int) ≤ v0 ∧ v0 ≤ ((9223372036854775807) : Int)) ∧ (((1) : Int) ≤ v1 ∧ v1 ≤ ((9223372036854775807) : Int)) ∧ True := hr
  replace hl : True := hl
  show zO0_t.dn ⟨_, []⟩ 2 [v1, v0] 0 []
  rw [zO0_vc]
  repeat' first | refine And.intro ?_ ?_ | intro _
  all_goals trivial)
noncomputable def zO1_t : Tree := .done [] []
theorem zO1_tree : (L2.zO1).exe Tryz.prog (L2.cfg Tryz.prog) [] 20 200 = zO1_t := by kernel_rfl
theorem zO1_vc (Q : List Int → List (List Int) → Prop) (v0 v1 : Int) : zO1_t.dn ⟨Q, []⟩ 2 [v1, v0] 0 [] = (Q [] []) := by kernel_rfl
set_option maxHeartbeats 4000000 in
theorem zO1_holds : (L2.zO1).Holds Tryz.prog L2.ro := FSpec.holdsV (cfg := L2.cfg Tryz.prog) [] 20 200 cfg_ok mixed (t := zO1_t) zO1_tree (by
  show ∀ (v0 v1 : Int) , _
  intro v0 v1  hp hr hl
  replace hr : (((2) : Int) ≤ v0 ∧ v0 ≤ ((9223372036854775807) : Int)) ∧ (((1) : Int) ≤ v1 ∧ v1 ≤ ((9223372036854775807) : Int)) ∧ True := hr
  replace hl : True := hl
  show zO1_t.dn ⟨_, []⟩ 2 [v1, v0] 0 []
  rw [zO1_vc]
  repeat' first | refine And.intro ?_ ?_ | intro _
  all_goals trivial)
noncomputable def zR0_t : Tree := .done [] []
theorem zR0_tree : (L2.zR0).exe Tryz.prog (L2.cfg Tryz.prog) [] 20 200 = zR0_t := by kernel_rfl
theorem zR0_vc (Q : List Int → List (List Int) → Prop) (v0 v1 : Int) : zR0_t.dn ⟨Q, []⟩ 2 [v1, v0] 0 [] = (Q [] []) := by kernel_rfl
set_option maxHeartbeats 4000000 in
theorem zR0_holds : (L2.zR0).Holds Tryz.prog L2.ro := FSpec.holdsV (cfg := L2.cfg Tryz.prog) [] 20 200 cfg_ok mixed (t := zR0_t) zR0_tree (by
  show ∀ (v0 v1 : Int) , _
  intro v0 v1  hp hr hl
  replace hr : (((2) : Int) ≤ v0 ∧ v0 ≤ ((9223372036854775807) : Int)) ∧ (((1) : Int) ≤ v1 ∧ v1 ≤ ((9223372036854775807) : Int)) ∧ True := hr
  replace hl : True := hl
  show zR0_t.dn ⟨_, []⟩ 2 [v1, v0] 0 []
  rw [zR0_vc]
  repeat' first | refine And.intro ?_ ?_ | intro _
  all_goals trivial)
noncomputable def zR1_t : Tree := .done [] []
theorem zR1_tree : (L2.zR1).exe Tryz.prog (L2.cfg Tryz.prog) [] 20 200 = zR1_t := by kernel_rfl
theorem zR1_vc (Q : List Int → List (List Int) → Prop) (v0 v1 : Int) : zR1_t.dn ⟨Q, []⟩ 2 [v1, v0] 0 [] = (Q [] []) := by kernel_rfl
set_option maxHeartbeats 4000000 in
theorem zR1_holds : (L2.zR1).Holds Tryz.prog L2.ro := FSpec.holdsV (cfg := L2.cfg Tryz.prog) [] 20 200 cfg_ok mixed (t := zR1_t) zR1_tree (by
  show ∀ (v0 v1 : Int) , _
  intro v0 v1  hp hr hl
  replace hr : (((2) : Int) ≤ v0 ∧ v0 ≤ ((9223372036854775807) : Int)) ∧ (((1) : Int) ≤ v1 ∧ v1 ≤ ((9223372036854775807) : Int)) ∧ True := hr
  replace hl : True := hl
  show zR1_t.dn ⟨_, []⟩ 2 [v1, v0] 0 []
  rw [zR1_vc]
  repeat' first | refine And.intro ?_ ?_ | intro _
  all_goals trivial)
noncomputable def zR2_t : Tree := .done [] []
theorem zR2_tree : (L2.zR2).exe Tryz.prog (L2.cfg Tryz.prog) [] 20 200 = zR2_t := by kernel_rfl
theorem zR2_vc (Q : List Int → List (List Int) → Prop) (v0 v1 : Int) : zR2_t.dn ⟨Q, []⟩ 2 [v1, v0] 0 [] = (Q [] []) := by kernel_rfl
set_option maxHeartbeats 4000000 in
theorem zR2_holds : (L2.zR2).Holds Tryz.prog L2.ro := FSpec.holdsV (cfg := L2.cfg Tryz.prog) [] 20 200 cfg_ok mixed (t := zR2_t) zR2_tree (by
  show ∀ (v0 v1 : Int) , _
  intro v0 v1  hp hr hl
  replace hr : (((2) : Int) ≤ v0 ∧ v0 ≤ ((9223372036854775807) : Int)) ∧ (((1) : Int) ≤ v1 ∧ v1 ≤ ((9223372036854775807) : Int)) ∧ True := hr
  replace hl : True := hl
  show zR2_t.dn ⟨_, []⟩ 2 [v1, v0] 0 []
  rw [zR2_vc]
  repeat' first | refine And.intro ?_ ?_ | intro _
  all_goals trivial)
noncomputable def zR3_t : Tree := .done [] []
theorem zR3_tree : (L2.zR3).exe Tryz.prog (L2.cfg Tryz.prog) [] 20 200 = zR3_t := by kernel_rfl
theorem zR3_vc (Q : List Int → List (List Int) → Prop) (v0 v1 : Int) : zR3_t.dn ⟨Q, []⟩ 2 [v1, v0] 0 [] = (Q [] []) := by kernel_rfl
set_option maxHeartbeats 4000000 in
theorem zR3_holds : (L2.zR3).Holds Tryz.prog L2.ro := FSpec.holdsV (cfg := L2.cfg Tryz.prog) [] 20 200 cfg_ok mixed (t := zR3_t) zR3_tree (by
  show ∀ (v0 v1 : Int) , _
  intro v0 v1  hp hr hl
  replace hr : (((2) : Int) ≤ v0 ∧ v0 ≤ ((9223372036854775807) : Int)) ∧ (((1) : Int) ≤ v1 ∧ v1 ≤ ((9223372036854775807) : Int)) ∧ True := hr
  replace hl : True := hl
  show zR3_t.dn ⟨_, []⟩ 2 [v1, v0] 0 []
  rw [zR3_vc]
  repeat' first | refine And.intro ?_ ?_ | intro _
  all_goals trivial)
end Go.Proofs.YtbeeilndeglnhaaGreatDoor
