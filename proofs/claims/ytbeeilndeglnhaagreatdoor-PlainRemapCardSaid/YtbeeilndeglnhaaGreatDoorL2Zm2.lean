/- Contracts: calls at closed states. -/
import Derived.Test.YtbeeilndeglnhaaGreatDoorL2Facts
import Derived.Test.YtbeeilndeglnhaaGreatDoorSxM7
import Derived.Test.YtbeeilndeglnhaaGreatDoorL2Z
set_option linter.unusedVariables false
set_option linter.unusedSimpArgs false
open Go Go.Sx
namespace Go.Proofs.YtbeeilndeglnhaaGreatDoor
set_option maxRecDepth 100000
noncomputable def zL00_t : Tree := .done [] []
theorem zL00_tree : (L2.zL00).exe Tryz.prog (L2.cfg Tryz.prog) [] 20 200 = zL00_t := by kernel_rfl
theorem zL00_vc (Q : List Int → List (List Int) → Prop) (v0 v1 v2 v3 : Int) : zL00_t.dn ⟨Q, []⟩ 4 [v3, v2, v1, v0] 0 [] = (Q [] []) := by kernel_rfl
set_option maxHeartbeats 4000000 in
theorem zL00_holds : (L2.zL00).Holds Tryz.prog L2.ro := FSpec.holdsV (cfg := L2.cfg Tryz.prog) [] 20 200 cfg_ok mixed (t := zL00_t) zL00_tree (by
  show ∀ (v0 v1 v2 v3 : Int) , _
  intro v0 v1 v2 v3  hp hr hl
  replace hr : (((2) : Int) ≤ v0 ∧ v0 ≤ ((9223372036854775807) : Int)) ∧ (((2) : Int) ≤ v1 ∧ v1 ≤ ((9223372036854775807) : Int)) ∧ (((0) : Int) ≤ v2 ∧ v2 ≤ ((18446744073709551615) : Int)) ∧ (((0) : Int) ≤ v3 ∧ v3 ≤ ((18446744073709551615) : Int)) ∧ True := hr
  replace hl : True := hl
  show zL00_t.dn ⟨_, []⟩ 4 [v3, v2, v1, v0] 0 []
  rw [zL00_vc]
  repeat' first | refine And.intro ?_ ?_ | intro _
  all_goals trivial)
noncomputable def zL01_t : Tree := .both (.done [] []) (.done [] [])
theorem zL01_tree : (L2.zL01).exe Tryz.prog (L2.cfg Tryz.prog) [] 20 200 = zL01_t := by kernel_rfl
theorem zL01_vc (Q : List Int → List (List Int) → Prop) (v0 v1 v2 v3 : Int) : zL01_t.dn ⟨Q, []⟩ 4 [v3, v2, v1, v0] 0 [] = ((Q [] []) ∧
(Q [] [])) := by kernel_rfl
set_option maxHeartbeats 4000000 in
theorem zL01_holds : (L2.zL01).Holds Tryz.prog L2.ro := FSpec.holdsV (cfg := L2.cfg Tryz.prog) [] 20 200 cfg_ok mixed (t := zL01_t) zL01_tree (by
  show ∀ (v0 v1 v2 v3 : Int) , _
  intro v0 v1 v2 v3  hp hr hl
  replace hr : (((2) : Int) ≤ v0 ∧ v0 ≤ ((9223372036854775807) : Int)) ∧ (((2) : Int) ≤ v1 ∧ v1 ≤ ((9223372036854775807) : Int)) ∧ (((0) : Int) ≤ v2 ∧ v2 ≤ ((18446744073709551615) : Int)) ∧ (((0) : Int) ≤ v3 ∧ v3 ≤ ((18446744073709551615) : Int)) ∧ True := hr
  replace hl : True := hl
  show zL01_t.dn ⟨_, []⟩ 4 [v3, v2, v1, v0] 0 []
  rw [zL01_vc]
  repeat' first | refine And.intro ?_ ?_ | intro _
  all_goals trivial)
noncomputable def zL02_t : Tree := .done [] []
theorem zL02_tree : (L2.zL02).exe Tryz.prog (L2.cfg Tryz.prog) [] 20 200 = zL02_t := by kernel_rfl
theorem zL02_vc (Q : List Int → List (List Int) → Prop) (v0 v1 v2 v3 : Int) : zL02_t.dn ⟨Q, []⟩ 4 [v3, v2, v1, v0] 0 [] = (Q [] []) := by kernel_rfl
set_option maxHeartbeats 4000000 in
theorem zL02_holds : (L2.zL02).Holds Tryz.prog L2.ro := FSpec.holdsV (cfg := L2.cfg Tryz.prog) [] 20 200 cfg_ok mixed (t := zL02_t) zL02_tree (by
  show ∀ (v0 v1 v2 v3 : Int) , _
  intro v0 v1 v2 v3  hp hr hl
  replace hr : (((2) : Int) ≤ v0 ∧ v0 ≤ ((9223372036854775807) : Int)) ∧ (((2) : Int) ≤ v1 ∧ v1 ≤ ((9223372036854775807) : Int)) ∧ (((0) : Int) ≤ v2 ∧ v2 ≤ ((18446744073709551615) : Int)) ∧ (((0) : Int) ≤ v3 ∧ v3 ≤ ((18446744073709551615) : Int)) ∧ True := hr
  replace hl : True := hl
  show zL02_t.dn ⟨_, []⟩ 4 [v3, v2, v1, v0] 0 []
  rw [zL02_vc]
  repeat' first | refine And.intro ?_ ?_ | intro _
  all_goals trivial)
noncomputable def zL03_t : Tree := .done [] []
theorem zL03_tree : (L2.zL03).exe Tryz.prog (L2.cfg Tryz.prog) [] 20 200 = zL03_t := by kernel_rfl
theorem zL03_vc (Q : List Int → List (List Int) → Prop) (v0 v1 v2 v3 : Int) : zL03_t.dn ⟨Q, []⟩ 4 [v3, v2, v1, v0] 0 [] = (Q [] []) := by kernel_rfl
set_option maxHeartbeats 4000000 in
theorem zL03_holds : (L2.zL03).Holds Tryz.prog L2.ro := FSpec.holdsV (cfg := L2.cfg Tryz.prog) [] 20 200 cfg_ok mixed (t := zL03_t) zL03_tree (by
  show ∀ (v0 v1 v2 v3 : Int) , _
  intro v0 v1 v2 v3  hp hr hl
  replace hr : (((2) : Int) ≤ v0 ∧ v0 ≤ ((9223372036854775807) : Int)) ∧ (((2) : Int) ≤ v1 ∧ v1 ≤ ((9223372036854775807) : Int)) ∧ (((0) : Int) ≤ v2 ∧ v2 ≤ ((18446744073709551615) : Int)) ∧ (((0) : Int) ≤ v3 ∧ v3 ≤ ((18446744073709551615) : Int)) ∧ True := hr
  replace hl : True := hl
  show zL03_t.dn ⟨_, []⟩ 4 [v3, v2, v1, v0] 0 []
  rw [zL03_vc]
  repeat' first | refine And.intro ?_ ?_ | intro _
  all_goals trivial)
end Go.Proofs.YtbeeilndeglnhaaGreatDoor
