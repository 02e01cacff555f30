/- Contracts: calls at closed states. -/
import Derived.Test.YtbeeilndeglnhaaGreatDoorL2Facts
import Derived.Test.YtbeeilndeglnhaaGreatDoorSxM7
import Derived.Test.YtbeeilndeglnhaaGreatDoorL2Z
set_option linter.unusedVariables false
set_option linter.unusedSimpArgs false
open Go Go.Sx
namespace Go.Proofs.YtbeeilndeglnhaaGreatDoor
set_option maxRecDepth 100000
noncomputable def zL10_t : Tree := .done [] []
theorem zL10_tree : (L2.zL10).exe Tryz.prog (L2.cfg Tryz.prog) [] 20 200 = zL10_t := by kernel_rfl
theorem zL10_vc (Q : List Int → List (List Int) → Prop) (v0 v1 v2 v3 : Int) : zL10_t.dn ⟨Q, []⟩ 4 [v3, v2, v1, v0] 0 [] = (Q [] []) := by kernel_rfl
set_option maxHeartbeats 4000000 in
theorem zL10_holds : (L2.zL10).Holds Tryz.prog L2.ro := FSpec.holdsV (cfg := L2.cfg Tryz.prog) [] 20 200 cfg_ok mixed (t := zL10_t) zL10_tree (by
  show ∀ (v0 v1 v2 v3 : Int) , _
  intro v0 v1 v2 v3  hp hr hl
  replace hr : (((2) : Int) ≤ v0 ∧ v0 ≤ ((9223372036854775807) : Int)) ∧ (((2) : Int) ≤ v1 ∧ v1 ≤ ((9223372036854775807) : Int)) ∧ (((0) : Int) ≤ v2 ∧ v2 ≤ ((18446744073709551615) : Int)) ∧ (((0) : Int) ≤ v3 ∧ v3 ≤ ((18446744073709551615) : Int)) ∧ True := hr
  replace hl : True := hl
  show zL10_t.dn ⟨_, []⟩ 4 [v3, v2, v1, v0] 0 []
  rw [zL10_vc]
  repeat' first | refine And.intro ?_ ?_ | intro _
  all_goals trivial)
noncomputable def zL11_t : Tree := .both (.done [] []) (.done [] [])
theorem zL11_tree : (L2.zL11).exe Tryz.prog (L2.cfg Tryz.prog) [] 20 200 = zL11_t := by kernel_rfl
theorem zL11_vc (Q : List Int → List (List Int) → Prop) (v0 v1 v2 v3 : Int) : zL11_t.dn ⟨Q, []⟩ 4 [v3, v2, v1, v0] 0 [] = ((Q [] []) ∧
(Q [] [])) := by kernel_rfl
set_option maxHeartbeats 4000000 in
theorem zL11_holds : (L2.zL11).Holds Tryz.prog L2.ro := FSpec.holdsV (cfg := L2.cfg Tryz.prog) [] 20 200 cfg_ok mixed (t := zL11_t) zL11_tree (by
  show ∀ (v0 v1 v2 v3 : Int) , _
  intro v0 v1 v2 v3  hp hr hl
  replace hr : (((2) : Int) ≤ v0 ∧ v0 ≤ ((9223372036854775807) : Int)) ∧ (((2) : Int) ≤ v1 ∧ v1 ≤ ((9223372036854775807) : Int)) ∧ (((0) : Int) ≤ v2 ∧ v2 ≤ ((18446744073709551615) : Int)) ∧ (((0) : Int) ≤ v3 ∧ v3 ≤ ((18446744073709551615) : Int)) ∧ True := hr
  replace hl : True := hl
  show zL11_t.dn ⟨_, []⟩ 4 [v3, v2, v1, v0] 0 []
  rw [zL11_vc]
  repeat' first | refine And.intro ?_ ?_ | intro _
  all_goals trivial)
noncomputable def zL12_t : Tree := .done [] []
theorem zL12_tree : (L2.zL12).exe Tryz.prog (L2.cfg Tryz.prog) [] 20 200 = zL12_t := by kernel_rfl
theorem zL12_vc (Q : List Int → List (List Int) → Prop) (v0 v1 v2 v3 : Int) : zL12_t.dn ⟨Q, []⟩ 4 [v3, v2, v1, v0] 0 [] = (Q [] []) := by kernel_rfl
set_option maxHeartbeats 4000000 in
theorem zL12_holds : (L2.zL12).Holds Tryz.prog L2.ro := FSpec.holdsV (cfg := L2.cfg Tryz.prog) [] 20 200 cfg_ok mixed (t := zL12_t) zL12_tree (by
  show ∀ (v0 v1 v2 v3 : Int) , _
  intro v0 v1 v2 v3  hp hr hl
  replace hr : (((2) : Int) ≤ v0 ∧ v0 ≤ ((9223372036854775807) : Int)) ∧ (((2) : Int) ≤ v1 ∧ v1 ≤ ((9223372036854775807) : Int)) ∧ (((0) : Int) ≤ v2 ∧ v2 ≤ ((18446744073709551615) : Int)) ∧ (((0) : Int) ≤ v3 ∧ v3 ≤ ((18446744073709551615) : Int)) ∧ True := hr
  replace hl : True := hl
  show zL12_t.dn ⟨_, []⟩ 4 [v3, v2, v1, v0] 0 []
  rw [zL12_vc]
  repeat' first | refine And.intro ?_ ?_ | intro _
  all_goals trivial)
noncomputable def zL13_t : Tree := .done [] []
theorem zL13_tree : (L2.zL13).exe Tryz.prog (L2.cfg Tryz.prog) [] 20 200 = zL13_t := by kernel_rfl
theorem zL13_vc (Q : List Int → List (List Int) → Prop) (v0 v1 v2 v3 : Int) : zL13_t.dn ⟨Q, []⟩ 4 [v3, v2, v1, v0] 0 [] = (Q [] []) := by kernel_rfl
set_option maxHeartbeats 4000000 in
theorem zL13_holds : (L2.zL13).Holds Tryz.prog L2.ro := FSpec.holdsV (cfg := L2.cfg Tryz.prog) [] 20 200 cfg_ok mixed (t := zL13_t) zL13_tree (by
  show ∀ (v0 v1 v2 v3 : Int) , _
  intro v0 v1 v2 v3  hp hr hl
  replace hr : (((2) : Int) ≤ v0 ∧ v0 ≤ ((9223372036854775807) : Int)) ∧ (((2) : Int) ≤ v1 ∧ v1 ≤ ((9223372036854775807) : Int)) ∧ (((0) : Int) ≤ v2 ∧ v2 ≤ ((18446744073709551615) : Int)) ∧ (((0) : Int) ≤ v3 ∧ v3 ≤ ((18446744073709551615) : Int)) ∧ True := hr
  replace hl : True := hl
  show zL13_t.dn ⟨_, []⟩ 4 [v3, v2, v1, v0] 0 []
  rw [zL13_vc]
  repeat' first | refine And.intro ?_ ?_ | intro _
  all_goals trivial)
end Go.Proofs.YtbeeilndeglnhaaGreatDoor
