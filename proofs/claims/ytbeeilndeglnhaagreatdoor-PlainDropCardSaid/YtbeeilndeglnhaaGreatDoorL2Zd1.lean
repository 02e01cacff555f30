/- Contracts: calls at closed states. -/
import Derived.Test.YtbeeilndeglnhaaGreatDoorL2Facts
import Derived.Test.YtbeeilndeglnhaaGreatDoorSxM7
import Derived.Test.YtbeeilndeglnhaaGreatDoorL2Z
set_option linter.unusedVariables false
set_option linter.unusedSimpArgs false
open Go Go.Sx
namespace Go.Proofs.YtbeeilndeglnhaaGreatDoor
set_option maxRecDepth 100000
noncomputable def zD3_t : Tree := .done [] []
theorem zD3_tree : (L2.zD3).exe Tryz.prog (L2.cfg Tryz.prog) [] 20 200 = zD3_t := by kernel_rfl
theorem zD3_vc (Q : List Int → List (List Int) → Prop) (v0 v1 : Int) : zD3_t.dn ⟨Q, []⟩ 2 [v1, v0] 0 [] = (Q [] []) := by kernel_rfl
set_option maxHeartbeats 4000000 in
theorem zD3_holds : (L2.zD3).Holds Tryz.prog L2.ro := FSpec.holdsV (cfg := L2.cfg Tryz.prog) [] 20 200 cfg_ok mixed (t := zD3_t) zD3_tree (by
  show ∀ (v0 v1 : Int) , _
  intro v0 v1  hp hr hl
  replace hr : (((2) : Int) ≤ v0 ∧ v0 ≤ ((9223372036854775807) : Int)) ∧ (((1) : Int) ≤ v1 ∧ v1 ≤ ((9223372036854775807) : Int)) ∧ True := hr
  replace hl : True := hl
  show zD3_t.dn ⟨_, []⟩ 2 [v1, v0] 0 []
  rw [zD3_vc]
  repeat' first | refine And.intro ?_ ?_ | intro _
  all_goals trivial)
noncomputable def zD4_t : Tree := .done [] []
theorem zD4_tree : (L2.zD4).exe Tryz.prog (L2.cfg Tryz.prog) [] 20 200 = zD4_t := by kernel_rfl
theorem zD4_vc (Q : List Int → List (List Int) → Prop) (v0 v1 : Int) : zD4_t.dn ⟨Q, []⟩ 2 [v1, v0] 0 [] = (Q [] []) := by kernel_rfl
set_option maxHeartbeats 4000000 in
theorem zD4_holds : (L2.zD4).Holds Tryz.prog L2.ro := FSpec.holdsV (cfg := L2.cfg Tryz.prog) [] 20 200 cfg_ok mixed (t := zD4_t) zD4_tree (by
  show ∀ (v0 v1 : Int) , _
  intro v0 v1  hp hr hl
  replace hr : (((2) : Int) ≤ v0 ∧ v0 ≤ ((9223372036854775807) : Int)) ∧ (((1) : Int) ≤ v1 ∧ v1 ≤ ((9223372036854775807) : Int)) ∧ True := hr
  replace hl : True := hl
  show zD4_t.dn ⟨_, []⟩ 2 [v1, v0] 0 []
  rw [zD4_vc]
  repeat' first | refine And.intro ?_ ?_ | intro _
  all_goals trivial)
noncomputable def zD5_t : Tree := .done [] []
theorem zD5_tree : (L2.zD5).exe Tryz.prog (L2.cfg Tryz.prog) [] 20 200 = zD5_t := by kernel_rfl
theorem zD5_vc (Q : List Int → List (List Int) → Prop) (v0 v1 : Int) : zD5_t.dn ⟨Q, []⟩ 2 [v1, v0] 0 [] = (Q [] []) := by kernel_rfl
set_option maxHeartbeats 4000000 in
theorem zD5_holds : (L2.zD5).Holds Tryz.prog L2.ro := FSpec.holdsV (cfg := L2.cfg Tryz.prog) [] 20 200 cfg_ok mixed (t := zD5_t) zD5_tree (by
  show ∀ (v0 v1 : Int) , _
  intro v0 v1  hp hr hl
  replace hr : (((2) : Int) ≤ v0 ∧ v0 ≤ ((9223372036854775807) : Int)) ∧ (((1) : Int) ≤ v1 ∧ v1 ≤ ((9223372036854775807) : Int)) ∧ True := hr
  replace hl : True := hl
  show zD5_t.dn ⟨_, []⟩ 2 [v1, v0] 0 []
  rw [zD5_vc]
  repeat' first | refine And.intro ?_ ?_ | intro _
  all_goals trivial)
noncomputable def zD6_t : Tree := .done [] []
theorem zD6_tree : (L2.zD6).exe Tryz.prog (L2.cfg Tryz.prog) [] 20 200 = zD6_t := by kernel_rfl
theorem zD6_vc (Q : List Int → List (List Int) → Prop) (v0 v1 : Int) : zD6_t.dn ⟨Q, []⟩ 2 [v1, v0] 0 [] = (Q [] []) := by kernel_rfl
set_option maxHeartbeats 4000000 in
theorem zD6_holds : (L2.zD6).Holds Tryz.prog L2.ro := FSpec.holdsV (cfg := L2.cfg Tryz.prog) [] 20 200 cfg_ok mixed (t := zD6_t) zD6_tree (by
  show ∀ (v0 v1 : Int) , _
  intro v0 v1  hp hr hl
  replace hr : (((2) : Int) ≤ v0 ∧ v0 ≤ ((9223372036854775807) : Int)) ∧ (((1) : Int) ≤ v1 ∧ v1 ≤ ((9223372036854775807) : Int)) ∧ True := hr
  replace hl : True := hl
  show zD6_t.dn ⟨_, []⟩ 2 [v1, v0] 0 []
  rw [zD6_vc]
  repeat' first | refine And.intro ?_ ?_ | intro _
  all_goals trivial)
end Go.Proofs.YtbeeilndeglnhaaGreatDoor
