/- Contracts: calls at closed states. -/
import Derived.Test.YtbeeilndeglnhaaGreatDoorL2Facts
import Derived.Test.YtbeeilndeglnhaaGreatDoorSxM7
import Derived.Test.YtbeeilndeglnhaaGreatDoorL2Z
set_option linter.unusedVariables false
set_option linter.unusedSimpArgs false
open Go Go.Sx
namespace Go.Proofs.YtbeeilndeglnhaaGreatDoor
set_option maxRecDepth 100000
noncomputable def zM0_t : Tree := .done [] []
theorem zM0_tree : (L2.zM0).exe Tryz.prog (L2.cfg Tryz.prog) [] 20 200 = zM0_t := by kernel_rfl
theorem zM0_vc (Q : List Int → List (List Int) → Prop) (v0 v1 v2 v3 : Int) : zM0_t.dn ⟨Q, []⟩ 4 [v3, v2, v1, v0] 0 [] = (Q [] []) := by kernel_rfl
set_option maxHeartbeats 4000000 in
theorem zM0_holds : (L2.zM0).Holds Tryz.prog L2.ro := FSpec.holdsV (cfg := L2.cfg Tryz.prog) [] 20 200 cfg_ok mixed (t := zM0_t) zM0_tree (by
  show ∀ (v0 v1 v2 v3 : Int) , _
  intro v0 v1 v2 v3  hp hr hl
  replace hr : (((2) : Int) ≤ v0 ∧ v0 ≤ ((9223372036854775807) : Int)) ∧ (((2) : Int) ≤ v1 ∧ v1 ≤ ((9223372036854775807) : Int)) ∧ (((0) : Int) ≤ v2 ∧ v2 ≤ ((18446744073709551615) : Int)) ∧ (((0) : Int) ≤ v3 ∧ v3 ≤ ((18446744073709551615) : Int)) ∧ True := hr
  replace hl : True := hl
  show zM0_t.dn ⟨_, []⟩ 4 [v3, v2, v1, v0] 0 []
  rw [zM0_vc]
  repeat' first | refine And.intro ?_ ?_ | intro _
  all_goals trivial)
noncomputable def zM1_t : Tree := .done [] []
theorem zM1_tree : (L2.zM1).exe Tryz.prog (L2.cfg Tryz.prog) [] 20 200 = zM1_t := by kernel_rfl
theorem zM1_vc (Q : List Int → List (List Int) → Prop) (v0 v1 v2 v3 : Int) : zM1_t.dn ⟨Q, []⟩ 4 [v3, v2, v1, v0] 0 [] = (Q [] []) := by kernel_rfl
set_option maxHeartbeats 4000000 in
theorem zM1_holds : (L2.zM1).Holds Tryz.prog L2.ro := FSpec.holdsV (cfg := L2.cfg Tryz.prog) [] 20 200 cfg_ok mixed (t := zM1_t) zM1_tree (by
  show ∀ (v0 v1 v2 v3 : Int) , _
  intro v0 v1 v2 v3  hp hr hl
  replace hr : (((2) : Int) ≤ v0 ∧ v0 ≤ ((9223372036854775807) : Int)) ∧ (((2) : Int) ≤ v1 ∧ v1 ≤ ((9223372036854775807) : Int)) ∧ (((0) : Int) ≤ v2 ∧ v2 ≤ ((18446744073709551615) : Int)) ∧ (((0) : Int) ≤ v3 ∧ v3 ≤ ((18446744073709551615) : Int)) ∧ True := hr
  replace hl : True := hl
  show zM1_t.dn ⟨_, []⟩ 4 [v3, v2, v1, v0] 0 []
  rw [zM1_vc]
  repeat' first | refine And.intro ?_ ?_ | intro _
  all_goals trivial)
noncomputable def zM2_t : Tree := .done [] []
theorem zM2_tree : (L2.zM2).exe Tryz.prog (L2.cfg Tryz.prog) [] 20 200 = zM2_t := by kernel_rfl
theorem zM2_vc (Q : List Int → List (List Int) → Prop) (v0 v1 v2 v3 : Int) : zM2_t.dn ⟨Q, []⟩ 4 [v3, v2, v1, v0] 0 [] = (Q [] []) := by kernel_rfl
set_option maxHeartbeats 4000000 in
theorem zM2_holds : (L2.zM2).Holds Tryz.prog L2.ro := FSpec.holdsV (cfg := L2.cfg Tryz.prog) [] 20 200 cfg_ok mixed (t := zM2_t) zM2_tree (by
  show ∀ (v0 v1 v2 v3 : Int) , _
  intro v0 v1 v2 v3  hp hr hl
  replace hr : (((2) : Int) ≤ v0 ∧ v0 ≤ ((9223372036854775807) : Int)) ∧ (((2) : Int) ≤ v1 ∧ v1 ≤ ((9223372036854775807) : Int)) ∧ (((0) : Int) ≤ v2 ∧ v2 ≤ ((18446744073709551615) : Int)) ∧ (((0) : Int) ≤ v3 ∧ v3 ≤ ((18446744073709551615) : Int)) ∧ True := hr
  replace hl : True := hl
  show zM2_t.dn ⟨_, []⟩ 4 [v3, v2, v1, v0] 0 []
  rw [zM2_vc]
  repeat' first | refine And.intro ?_ ?_ | intro _
  all_goals trivial)
noncomputable def zM3_t : Tree := .letI (.wr .i64 (.v 2)) (.both (.done [] []) (.done [] []))
theorem zM3_tree : (L2.zM3).exe Tryz.prog (L2.cfg Tryz.prog) [] 20 200 = zM3_t := by kernel_rfl
theorem zM3_vc (Q : List Int → List (List Int) → Prop) (v0 v1 v2 v3 : Int) : zM3_t.dn ⟨Q, []⟩ 4 [v3, v2, v1, v0] 0 [] = (∀ v4 : Int, v4 = IntKind.wrap .i64 v2 → (Q [] []) ∧
(Q [] [])) := by kernel_rfl
set_option maxHeartbeats 4000000 in
theorem zM3_holds : (L2.zM3).Holds Tryz.prog L2.ro := FSpec.holdsV (cfg := L2.cfg Tryz.prog) [] 20 200 cfg_ok mixed (t := zM3_t) zM3_tree (by
  show ∀ (v0 v1 v2 v3 : Int) , _
  intro v0 v1 v2 v3  hp hr hl
  replace hr : (((2) : Int) ≤ v0 ∧ v0 ≤ ((9223372036854775807) : Int)) ∧ (((2) : Int) ≤ v1 ∧ v1 ≤ ((9223372036854775807) : Int)) ∧ (((0) : Int) ≤ v2 ∧ v2 ≤ ((18446744073709551615) : Int)) ∧ (((0) : Int) ≤ v3 ∧ v3 ≤ ((18446744073709551615) : Int)) ∧ True := hr
  replace hl : True := hl
  show zM3_t.dn ⟨_, []⟩ 4 [v3, v2, v1, v0] 0 []
  rw [zM3_vc]
  repeat' first | refine And.intro ?_ ?_ | intro _
  all_goals trivial)
end Go.Proofs.YtbeeilndeglnhaaGreatDoor
