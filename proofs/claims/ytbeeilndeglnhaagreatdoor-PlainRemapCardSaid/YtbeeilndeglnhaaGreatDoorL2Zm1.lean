/- Contracts: calls at closed states. -/
import Derived.Test.YtbeeilndeglnhaaGreatDoorL2Facts
import Derived.Test.YtbeeilndeglnhaaGreatDoorSxM7
import Derived.Test.YtbeeilndeglnhaaGreatDoorL2Z
set_option linter.unusedVariables false
set_option linter.unusedSimpArgs false
open Go Go.Sx
namespace Go.Proofs.YtbeeilndeglnhaaGreatDoor
set_option maxRecDepth 100000
noncomputable def zM4_t : Tree := .done [] []
theorem zM4_tree : (L2.zM4).exe Tryz.prog (L2.cfg Tryz.prog) [] 20 200 = zM4_t := by kernel_rfl
theorem zM4_vc (Q : List Int → List (List Int) → Prop) (v0 v1 v2 v3 : Int) : zM4_t.dn ⟨Q, []⟩ 4 [v3, v2, v1, v0] 0 [] = (Q [] []) := by kernel_rfl
set_option maxHeartbeats 4000000 in
theorem zM4_holds : (L2.zM4).Holds Tryz.prog L2.ro := FSpec.holdsV (cfg := L2.cfg Tryz.prog) [] 20 200 cfg_ok mixed (t := zM4_t) zM4_tree (by
  show ∀ (v0 v1 v2 v3 : Int) , _
  intro v0 v1 v2 v3  hp hr hl
  replace hr : (((2) : Int) ≤ v0 ∧ v0 ≤ ((9223372036854775807) : Int)) ∧ (((2) : Int) ≤ v1 ∧ v1 ≤ ((9223372036854775807) : Int)) ∧ (((0) : Int) ≤ v2 ∧ v2 ≤ ((18446744073709551615) : Int)) ∧ (((0) : Int) ≤ v3 ∧ v3 ≤ ((18446744073709551615) : Int)) ∧ True := hr
  replace hl : True := hl
  show zM4_t.dn ⟨_, []⟩ 4 [v3, v2, v1, v0] 0 []
  rw [zM4_vc]
  repeat' first | refine And.intro ?_ ?_ | intro _
  all_goals trivial)
noncomputable def zM5_t : Tree := .done [] []
theorem zM5_tree : (L2.zM5).exe Tryz.prog (L2.cfg Tryz.prog) [] 20 200 = zM5_t := by kernel_rfl
theorem zM5_vc (Q : List Int → List (List Int) → Prop) (v0 v1 v2 v3 : Int) : zM5_t.dn ⟨Q, []⟩ 4 [v3, v2, v1, v0] 0 [] = (Q [] []) := by kernel_rfl
set_option maxHeartbeats 4000000 in
theorem zM5_holds : (L2.zM5).Holds Tryz.prog L2.ro := FSpec.holdsV (cfg := L2.cfg Tryz.prog) [] 20 200 cfg_ok mixed (t := zM5_t) zM5_tree (by
  show ∀ (v0 v1 v2 v3 : Int) , _
  intro v0 v1 v2 v3  hp hr hl
  replace hr : (((2) : Int) ≤ v0 ∧ v0 ≤ ((9223372036854775807) : Int)) ∧ (((2) : Int) ≤ v1 ∧ v1 ≤ ((9223372036854775807) : Int)) ∧ (((0) : Int) ≤ v2 ∧ v2 ≤ ((18446744073709551615) : Int)) ∧ (((0) : Int) ≤ v3 ∧ v3 ≤ ((18446744073709551615) : Int)) ∧ True := hr
  replace hl : True := hl
  show zM5_t.dn ⟨_, []⟩ 4 [v3, v2, v1, v0] 0 []
  rw [zM5_vc]
  repeat' first | refine And.intro ?_ ?_ | intro _
  all_goals trivial)
noncomputable def zM6_t : Tree := .letI (.wr .i64 (.v 3)) (.both (.done [] []) (.done [] []))
theorem zM6_tree : (L2.zM6).exe Tryz.prog (L2.cfg Tryz.prog) [] 20 200 = zM6_t := by kernel_rfl
theorem zM6_vc (Q : List Int → List (List Int) → Prop) (v0 v1 v2 v3 : Int) : zM6_t.dn ⟨Q, []⟩ 4 [v3, v2, v1, v0] 0 [] = (∀ v4 : Int, v4 = IntKind.wrap .i64 v3 → (Q [] []) ∧
(Q [] [])) := by kernel_rfl
set_option maxHeartbeats 4000000 in
theorem zM6_holds : (L2.zM6).Holds Tryz.prog L2.ro := FSpec.holdsV (cfg := L2.cfg Tryz.prog) [] 20 200 cfg_ok mixed (t := zM6_t) zM6_tree (by
  show ∀ (v0 v1 v2 v3 : Int) , _
  intro v0 v1 v2 v3  hp hr hl
  replace hr : (((2) : Int) ≤ v0 ∧ v0 ≤ ((9223372036854775807) : Int)) ∧ (((2) : Int) ≤ v1 ∧ v1 ≤ ((9223372036854775807) : Int)) ∧ (((0) : Int) ≤ v2 ∧ v2 ≤ ((18446744073709551615) : Int)) ∧ (((0) : Int) ≤ v3 ∧ v3 ≤ ((18446744073709551615) : Int)) ∧ True := hr
  replace hl : True := hl
  show zM6_t.dn ⟨_, []⟩ 4 [v3, v2, v1, v0] 0 []
  rw [zM6_vc]
  repeat' first | refine And.intro ?_ ?_ | intro _
  all_goals trivial)
noncomputable def zM7_t : Tree := .done [] []
theorem zM7_tree : (L2.zM7).exe Tryz.prog (L2.cfg Tryz.prog) [] 20 200 = zM7_t := by kernel_rfl
theorem zM7_vc (Q : List Int → List (List Int) → Prop) (v0 v1 v2 v3 : Int) : zM7_t.dn ⟨Q, []⟩ 4 [v3, v2, v1, v0] 0 [] = (Q [] []) := by kernel_rfl
set_option maxHeartbeats 4000000 in
theorem zM7_holds : (L2.zM7).Holds Tryz.prog L2.ro := FSpec.holdsV (cfg := L2.cfg Tryz.prog) [] 20 200 cfg_ok mixed (t := zM7_t) zM7_tree (by
  show ∀ (v0 v1 v2 v3 : Int) , _
  intro v0 v1 v2 v3  hp hr hl
  replace hr : (((2) : Int) ≤ v0 ∧ v0 ≤ ((9223372036854775807) : Int)) ∧ (((2) : Int) ≤ v1 ∧ v1 ≤ ((9223372036854775807) : Int)) ∧ (((0) : Int) ≤ v2 ∧ v2 ≤ ((18446744073709551615) : Int)) ∧ (((0) : Int) ≤ v3 ∧ v3 ≤ ((18446744073709551615) : Int)) ∧ True := hr
  replace hl : True := hl
  show zM7_t.dn ⟨_, []⟩ 4 [v3, v2, v1, v0] 0 []
  rw [zM7_vc]
  repeat' first | refine And.intro ?_ ?_ | intro _
  all_goals trivial)
end Go.Proofs.YtbeeilndeglnhaaGreatDoor
