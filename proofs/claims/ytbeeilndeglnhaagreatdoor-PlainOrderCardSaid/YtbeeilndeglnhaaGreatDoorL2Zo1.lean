/- Contracts: calls at closed states. -/
import Derived.Test.YtbeeilndeglnhaaGreatDoorL2Facts
import Derived.Test.YtbeeilndeglnhaaGreatDoorSxM7
import Derived.Test.YtbeeilndeglnhaaGreatDoorL2Z
set_option linter.unusedVariables false
set_option linter.unusedSimpArgs false
open Go Go.Sx
namespace Go.Proofs.YtbeeilndeglnhaaGreatDoor
set_option maxRecDepth 100000
noncomputable def zR4_t : Tree := .done [] []
theorem zR4_tree : (L2.zR4).exe Tryz.prog (L2.cfg Tryz.prog) [] 20 200 = zR4_t := by kernel_rfl
theorem zR4_vc (Q : List Int → List (List Int) → Prop) (v0 v1 : Int) : zR4_t.dn ⟨Q, []⟩ 2 [v1, v0] 0 [] = (Q [] []) := by kernel_rfl
set_option maxHeartbeats 4000000 in
theorem zR4_holds : (L2.zR4).Holds Tryz.prog L2.ro := FSpec.holdsV (cfg := L2.cfg Tryz.prog) [] 20 200 cfg_ok mixed (t := zR4_t) zR4_tree (by
  show ∀ (v0 v1 : Int) , _
  intro v0 v1  hp hr hl
  replace hr : (((2) : Int) ≤ v0 ∧ v0 ≤ ((9223372036854775807) : Int)) ∧ (((1) : Int) ≤ v1 ∧ v1 ≤ ((9223372036854775807) : Int)) ∧ True := hr
  replace hl : True := hl
  show zR4_t.dn ⟨_, []⟩ 2 [v1, v0] 0 []
  rw [zR4_vc]
  repeat' first | refine And.intro ?_ ?_ | intro _
  all_goals trivial)
noncomputable def zR5_t : Tree := .done [] []
theorem zR5_tree : (L2.zR5).exe Tryz.prog (L2.cfg Tryz.prog) [] 20 200 = zR5_t := by kernel_rfl
theorem zR5_vc (Q : List Int → List (List Int) → Prop) (v0 v1 : Int) : zR5_t.dn ⟨Q, []⟩ 2 [v1, v0] 0 [] = (Q [] []) := by kernel_rfl
set_option maxHeartbeats 4000000 in
theorem zR5_holds : (L2.zR5).Holds Tryz.prog L2.ro := FSpec.holdsV (cfg := L2.cfg Tryz.prog) [] 20 200 cfg_ok mixed (t := zR5_t) zR5_tree (by
  show ∀ (v0 v1 : Int) , _
  intro v0 v1  hp hr hl
  replace hr : (((2) : Int) ≤ v0 ∧ v0 ≤ ((9223372036854775807) : Int)) ∧ (((1) : Int) ≤ v1 ∧ v1 ≤ ((9223372036854775807) : Int)) ∧ True := hr
  replace hl : True := hl
  show zR5_t.dn ⟨_, []⟩ 2 [v1, v0] 0 []
  rw [zR5_vc]
  repeat' first | refine And.intro ?_ ?_ | intro _
  all_goals trivial)
noncomputable def zR6_t : Tree := .done [] []
theorem zR6_tree : (L2.zR6).exe Tryz.prog (L2.cfg Tryz.prog) [] 20 200 = zR6_t := by kernel_rfl
theorem zR6_vc (Q : List Int → List (List Int) → Prop) (v0 v1 : Int) : zR6_t.dn ⟨Q, []⟩ 2 [v1, v0] 0 [] = (Q [] []) := by kernel_rfl
set_option maxHeartbeats 4000000 in
theorem zR6_holds : (L2.zR6).Holds Tryz.prog L2.ro := FSpec.holdsV (cfg := L2.cfg Tryz.prog) [] 20 200 cfg_ok mixed (t := zR6_t) zR6_tree (by
  show ∀ (v0 v1 : Int) , _
  intro v0 v1  hp hr hl
  replace hr : (((2) : Int) ≤ v0 ∧ v0 ≤ ((9223372036854775807) : Int)) ∧ (((1) : Int) ≤ v1 ∧ v1 ≤ ((9223372036854775807) : Int)) ∧ True := hr
  replace hl : True := hl
  show zR6_t.dn ⟨_, []⟩ 2 [v1, v0] 0 []
  rw [zR6_vc]
  repeat' first | refine And.intro ?_ ?_ | intro _
  all_goals trivial)
noncomputable def zR7_t : Tree := .done [] []
theorem zR7_tree : (L2.zR7).exe Tryz.prog (L2.cfg Tryz.prog) [] 20 200 = zR7_t := by kernel_rfl
theorem zR7_vc (Q : List Int → List (List Int) → Prop) (v0 v1 : Int) : zR7_t.dn ⟨Q, []⟩ 2 [v1, v0] 0 [] = (Q [] []) := by kernel_rfl
set_option maxHeartbeats 4000000 in
theorem zR7_holds : (L2.zR7).Holds Tryz.prog L2.ro := FSpec.holdsV (cfg := L2.cfg Tryz.prog) [] 20 200 cfg_ok mixed (t := zR7_t) zR7_tree (by
  show ∀ (v0 v1 : Int) , _
  intro v0 v1  hp hr hl
  replace hr : (((2) : Int) ≤ v0 ∧ v0 ≤ ((9223372036854775807) : Int)) ∧ (((1) : Int) ≤ v1 ∧ v1 ≤ ((9223372036854775807) : Int)) ∧ True := hr
  replace hl : True := hl
  show zR7_t.dn ⟨_, []⟩ 2 [v1, v0] 0 []
  rw [zR7_vc]
  repeat' first | refine And.intro ?_ ?_ | intro _
  all_goals trivial)
noncomputable def zR8_t : Tree := .done [] []
theorem zR8_tree : (L2.zR8).exe Tryz.prog (L2.cfg Tryz.prog) [] 20 200 = zR8_t := by kernel_rfl
theorem zR8_vc (Q : List Int → List (List Int) → Prop) (v0 v1 : Int) : zR8_t.dn ⟨Q, []⟩ 2 [v1, v0] 0 [] = (Q [] []) := by kernel_rfl
set_option maxHeartbeats 4000000 in
theorem zR8_holds : (L2.zR8).Holds Tryz.prog L2.ro := FSpec.holdsV (cfg := L2.cfg Tryz.prog) [] 20 200 cfg_ok mixed (t := zR8_t) zR8_tree (by
  show ∀ (v0 v1 : Int) , _
  intro v0 v1  hp hr hl
  replace hr : (((2) : Int) ≤ v0 ∧ v0 ≤ ((9223372036854775807) : Int)) ∧ (((1) : Int) ≤ v1 ∧ v1 ≤ ((9223372036854775807) : Int)) ∧ True := hr
  replace hl : True := hl
  show zR8_t.dn ⟨_, []⟩ 2 [v1, v0] 0 []
  rw [zR8_vc]
  repeat' first | refine And.intro ?_ ?_ | intro _
  all_goals trivial)
noncomputable def zR9_t : Tree := .both (.done [] []) (.done [] [])
theorem zR9_tree : (L2.zR9).exe Tryz.prog (L2.cfg Tryz.prog) [] 20 200 = zR9_t := by kernel_rfl
theorem zR9_vc (Q : List Int → List (List Int) → Prop) (v0 v1 : Int) : zR9_t.dn ⟨Q, []⟩ 2 [v1, v0] 0 [] = ((Q [] []) ∧
(Q [] [])) := by kernel_rfl
set_option maxHeartbeats 4000000 in
theorem zR9_holds : (L2.zR9).Holds Tryz.prog L2.ro := FSpec.holdsV (cfg := L2.cfg Tryz.prog) [] 20 200 cfg_ok mixed (t := zR9_t) zR9_tree (by
  show ∀ (v0 v1 : Int) , _
  intro v0 v1  hp hr hl
  replace hr : (((2) : Int) ≤ v0 ∧ v0 ≤ ((9223372036854775807) : Int)) ∧ (((1) : Int) ≤ v1 ∧ v1 ≤ ((9223372036854775807) : Int)) ∧ True := hr
  replace hl : True := hl
  show zR9_t.dn ⟨_, []⟩ 2 [v1, v0] 0 []
  rw [zR9_vc]
  repeat' first | refine And.intro ?_ ?_ | intro _
  all_goals trivial)
end Go.Proofs.YtbeeilndeglnhaaGreatDoor
