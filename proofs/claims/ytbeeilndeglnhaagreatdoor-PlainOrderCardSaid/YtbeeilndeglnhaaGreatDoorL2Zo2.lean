/- Contracts: calls at closed states. -/
import Derived.Test.YtbeeilndeglnhaaGreatDoorL2Facts
import Derived.Test.YtbeeilndeglnhaaGreatDoorSxM7
import Derived.Test.YtbeeilndeglnhaaGreatDoorL2Z
set_option linter.unusedVariables false
set_option linter.unusedSimpArgs false
open Go Go.Sx
namespace Go.Proofs.YtbeeilndeglnhaaGreatDoor
set_option maxRecDepth 100000
noncomputable def zR10_t : Tree := .done [] []
theorem zR10_tree : (L2.zR10).exe Tryz.prog (L2.cfg Tryz.prog) [] 20 200 = zR10_t := by kernel_rfl
theorem zR10_vc (Q : List Int → List (List Int) → Prop) (v0 v1 : Int) : zR10_t.dn ⟨Q, []⟩ 2 [v1, v0] 0 [] = (Q [] []) := by kernel_rfl
set_option maxHeartbeats 4000000 in
theorem zR10_holds : (L2.zR10).Holds Tryz.prog L2.ro := FSpec.holdsV (cfg := L2.cfg Tryz.prog) [] 20 200 cfg_ok mixed (t := zR10_t) zR10_tree (by
  show ∀ (v0 v1 : Int) , _
  intro v0 v1  hp hr hl
  replace hr : (((2) : Int) ≤ v0 ∧ v0 ≤ ((9223372036854775807) : Int)) ∧ (((1) : Int) ≤ v1 ∧ v1 ≤ ((9223372036854775807) : Int)) ∧ True := hr
  replace hl : True := hl
  show zR10_t.dn ⟨_, []⟩ 2 [v1, v0] 0 []
  rw [zR10_vc]
  repeat' first | refine And.intro ?_ ?_ | intro _
  all_goals trivial)
noncomputable def zR11_t : Tree := .done [] []
theorem zR11_tree : (L2.zR11).exe Tryz.prog (L2.cfg Tryz.prog) [] 20 200 = zR11_t := by kernel_rfl
theorem zR11_vc (Q : List Int → List (List Int) → Prop) (v0 v1 : Int) : zR11_t.dn ⟨Q, []⟩ 2 [v1, v0] 0 [] = (Q [] []) := by kernel_rfl
set_option maxHeartbeats 4000000 in
theorem zR11_holds : (L2.zR11).Holds Tryz.prog L2.ro := FSpec.holdsV (cfg := L2.cfg Tryz.prog) [] 20 200 cfg_ok mixed (t := zR11_t) zR11_tree (by
  show ∀ (v0 v1 : Int) , _
  intro v0 v1  hp hr hl
  replace hr : (((2) : Int) ≤ v0 ∧ v0 ≤ ((9223372036854775807) : Int)) ∧ (((1) : Int) ≤ v1 ∧ v1 ≤ ((9223372036854775807) : Int)) ∧ True := hr
  replace hl : True := hl
  show zR11_t.dn ⟨_, []⟩ 2 [v1, v0] 0 []
  rw [zR11_vc]
  repeat' first | refine And.intro ?_ ?_ | intro _
  all_goals trivial)
noncomputable def zR12_t : Tree := .done [] []
theorem zR12_tree : (L2.zR12).exe Tryz.prog (L2.cfg Tryz.prog) [] 20 200 = zR12_t := by kernel_rfl
theorem zR12_vc (Q : List Int → List (List Int) → Prop) (v0 v1 : Int) : zR12_t.dn ⟨Q, []⟩ 2 [v1, v0] 0 [] = (Q [] []) := by kernel_rfl
set_option maxHeartbeats 4000000 in
theorem zR12_holds : (L2.zR12).Holds Tryz.prog L2.ro := FSpec.holdsV (cfg := L2.cfg Tryz.prog) [] 20 200 cfg_ok mixed (t := zR12_t) zR12_tree (by
  show ∀ (v0 v1 : Int) , _
  intro v0 v1  hp hr hl
  replace hr : (((2) : Int) ≤ v0 ∧ v0 ≤ ((9223372036854775807) : Int)) ∧ (((1) : Int) ≤ v1 ∧ v1 ≤ ((9223372036854775807) : Int)) ∧ True := hr
  replace hl : True := hl
  show zR12_t.dn ⟨_, []⟩ 2 [v1, v0] 0 []
  rw [zR12_vc]
  repeat' first | refine And.intro ?_ ?_ | intro _
  all_goals trivial)
noncomputable def zR13_t : Tree := .done [] []
theorem zR13_tree : (L2.zR13).exe Tryz.prog (L2.cfg Tryz.prog) [] 20 200 = zR13_t := by kernel_rfl
theorem zR13_vc (Q : List Int → List (List Int) → Prop) (v0 v1 : Int) : zR13_t.dn ⟨Q, []⟩ 2 [v1, v0] 0 [] = (Q [] []) := by kernel_rfl
set_option maxHeartbeats 4000000 in
theorem zR13_holds : (L2.zR13).Holds Tryz.prog L2.ro := FSpec.holdsV (cfg := L2.cfg Tryz.prog) [] 20 200 cfg_ok mixed (t := zR13_t) zR13_tree (by
  show ∀ (v0 v1 : Int) , _
  intro v0 v1  hp hr hl
  replace hr : (((2) : Int) ≤ v0 ∧ v0 ≤ ((9223372036854775807) : Int)) ∧ (((1) : Int) ≤ v1 ∧ v1 ≤ ((9223372036854775807) : Int)) ∧ True := hr
  replace hl : True := hl
  show zR13_t.dn ⟨_, []⟩ 2 [v1, v0] 0 []
  rw [zR13_vc]
  repeat' first | refine And.intro ?_ ?_ | intro _
  all_goals trivial)
noncomputable def zOff_t : Tree := .done [] []
theorem zOff_tree : (L2.zOff).exe Tryz.prog (L2.cfg Tryz.prog) [] 20 200 = zOff_t := by kernel_rfl
theorem zOff_vc (Q : List Int → List (List Int) → Prop) (v0 v1 v2 v3 v4 v5 v6 : Int) : zOff_t.dn ⟨Q, []⟩ 7 [v6, v5, v4, v3, v2, v1, v0] 0 [] = (Q [] []) := by kernel_rfl
set_option maxHeartbeats 4000000 in
theorem zOff_holds : (L2.zOff).Holds Tryz.prog L2.ro := FSpec.holdsV (cfg := L2.cfg Tryz.prog) [] 20 200 cfg_ok mixed (t := zOff_t) zOff_tree (by
  show ∀ (v0 v1 v2 v3 v4 v5 v6 : Int) , _
  intro v0 v1 v2 v3 v4 v5 v6  hp hr hl
  replace hr : (((2) : Int) ≤ v0 ∧ v0 ≤ ((9223372036854775807) : Int)) ∧ (((1) : Int) ≤ v1 ∧ v1 ≤ ((9223372036854775807) : Int)) ∧ (((0) : Int) ≤ v2 ∧ v2 ≤ ((18446744073709551615) : Int)) ∧ (((0) : Int) ≤ v3 ∧ v3 ≤ ((18446744073709551615) : Int)) ∧ (((0) : Int) ≤ v4 ∧ v4 ≤ ((18446744073709551615) : Int)) ∧ (((0) : Int) ≤ v5 ∧ v5 ≤ ((18446744073709551615) : Int)) ∧ (((0) : Int) ≤ v6 ∧ v6 ≤ ((18446744073709551615) : Int)) ∧ True := hr
  replace hl : True := hl
  show zOff_t.dn ⟨_, []⟩ 7 [v6, v5, v4, v3, v2, v1, v0] 0 []
  rw [zOff_vc]
  repeat' first | refine And.intro ?_ ?_ | intro _
  all_goals trivial)
end Go.Proofs.YtbeeilndeglnhaaGreatDoor
