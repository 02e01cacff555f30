/- Contract: a kernel's copy. -/
import Derived.Test.YtbeeilndeglnhaaGreatDoorL2Facts
import Derived.Test.YtbeeilndeglnhaaGreatDoorSxM7
import Derived.Test.YtbeeilndeglnhaaGreatDoorL2Z
set_option linter.unusedVariables false
set_option linter.unusedSimpArgs false
open Go Go.Sx
namespace Go.Proofs.YtbeeilndeglnhaaGreatDoor
set_option maxRecDepth 100000
noncomputable def zCp_t : Tree := .any (.c 1) (.c 9223372036854775807) (.any (.c 1) (.c 9223372036854775807) (.any (.c 2) (.c 9223372036854775807) (.any (.c 16) (.c 9223372036854775807) (.done [.v 4, .v 2] []))))
theorem zCp_tree : (L2.zCp).exe Tryz.prog (L2.cfg Tryz.prog) [] 20 200 = zCp_t := by kernel_rfl
theorem zCp_vc (Q : List Int → List (List Int) → Prop) (v0 v1 : Int) : zCp_t.dn ⟨Q, []⟩ 2 [v1, v0] 0 [] = (∀ v2 : Int, (1 : Int) ≤ v2 → v2 ≤ (9223372036854775807 : Int) → ∀ v3 : Int, (1 : Int) ≤ v3 → v3 ≤ (9223372036854775807 : Int) → ∀ v4 : Int, (2 : Int) ≤ v4 → v4 ≤ (9223372036854775807 : Int) → ∀ v5 : Int, (16 : Int) ≤ v5 → v5 ≤ (9223372036854775807 : Int) → Q [v4, v2] []) := by kernel_rfl
set_option maxHeartbeats 4000000 in
theorem zCp_holds : (L2.zCp).Holds Tryz.prog L2.ro := FSpec.holdsV (cfg := L2.cfg Tryz.prog) [] 20 200 cfg_ok mixed (t := zCp_t) zCp_tree (by
  show ∀ (v0 v1 : Int) , _
  intro v0 v1  hp hr hl
  replace hr : (((2) : Int) ≤ v0 ∧ v0 ≤ ((9223372036854775807) : Int)) ∧ (((1) : Int) ≤ v1 ∧ v1 ≤ ((9223372036854775807) : Int)) ∧ True := hr
  replace hl : True := hl
  show zCp_t.dn ⟨_, []⟩ 2 [v1, v0] 0 []
  rw [zCp_vc]
  repeat' first | refine And.intro ?_ ?_ | intro _
  all_goals trivial)
end Go.Proofs.YtbeeilndeglnhaaGreatDoor
