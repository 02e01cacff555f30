/- Contracts: errors told at a closed state. -/
import Derived.Test.YtbeeilndeglnhaaGreatDoorL2Zc
set_option linter.unusedVariables false
set_option linter.unusedSimpArgs false
open Go Go.Sx
namespace Go.Proofs.YtbeeilndeglnhaaGreatDoor
set_option maxRecDepth 100000
theorem zx1_ok : (withS (L2.cfg Tryz.prog) [L2.zCp]).Ok Tryz.prog := withS_ok cfg_ok ⟨zCp_holds, trivial⟩
noncomputable def zX4_t : Tree := .both (.call 31 (Go.Sx.L2.pCopy3).rel [.v 0, .v 1] [] 2 0 (.both (.done [] []) (.done [] []))) (.call 31 (Go.Sx.L2.pCopy3).rel [.v 0, .v 1] [] 2 0 (.done [] []))
theorem zX4_tree : (L2.zX4).exe Tryz.prog (withS (L2.cfg Tryz.prog) [L2.zCp]) [] 20 200 = zX4_t := by kernel_rfl
theorem zX4_vc (Q : List Int → List (List Int) → Prop) (v0 v1 : Int) : zX4_t.dn ⟨Q, []⟩ 2 [v1, v0] 0 [] = (((Go.Sx.L2.pCopy3).rel.pre [v0, v1] [] ∧
(∀ v2 : Int, ∀ v3 : Int, (Go.Sx.L2.pCopy3).rel.post [v0, v1] [] [v2, v3] [] → (Q [] []) ∧
(Q [] []))) ∧
((Go.Sx.L2.pCopy3).rel.pre [v0, v1] [] ∧
(∀ v2 : Int, ∀ v3 : Int, (Go.Sx.L2.pCopy3).rel.post [v0, v1] [] [v2, v3] [] → Q [] []))) := by kernel_rfl
set_option maxHeartbeats 4000000 in
theorem zX4_holds : (L2.zX4).Holds Tryz.prog L2.ro := FSpec.holdsV (cfg := withS (L2.cfg Tryz.prog) [L2.zCp]) [] 20 200 zx1_ok mixed (t := zX4_t) zX4_tree (by
  show ∀ (v0 v1 : Int) , _
  intro v0 v1  hp hr hl
  replace hr : (((2) : Int) ≤ v0 ∧ v0 ≤ ((9223372036854775807) : Int)) ∧ (((1) : Int) ≤ v1 ∧ v1 ≤ ((9223372036854775807) : Int)) ∧ True := hr
  replace hl : True := hl
  show zX4_t.dn ⟨_, []⟩ 2 [v1, v0] 0 []
  rw [zX4_vc]
  repeat' first | refine And.intro ?_ ?_ | intro _
  all_goals trivial)
noncomputable def zX5_t : Tree := .both (.call 31 (Go.Sx.L2.pCopy3).rel [.v 0, .v 1] [] 2 0 (.both (.done [] []) (.done [] []))) (.call 31 (Go.Sx.L2.pCopy3).rel [.v 0, .v 1] [] 2 0 (.done [] []))
theorem zX5_tree : (L2.zX5).exe Tryz.prog (withS (L2.cfg Tryz.prog) [L2.zCp]) [] 20 200 = zX5_t := by kernel_rfl
theorem zX5_vc (Q : List Int → List (List Int) → Prop) (v0 v1 : Int) : zX5_t.dn ⟨Q, []⟩ 2 [v1, v0] 0 [] = (((Go.Sx.L2.pCopy3).rel.pre [v0, v1] [] ∧
(∀ v2 : Int, ∀ v3 : Int, (Go.Sx.L2.pCopy3).rel.post [v0, v1] [] [v2, v3] [] → (Q [] []) ∧
(Q [] []))) ∧
((Go.Sx.L2.pCopy3).rel.pre [v0, v1] [] ∧
(∀ v2 : Int, ∀ v3 : Int, (Go.Sx.L2.pCopy3).rel.post [v0, v1] [] [v2, v3] [] → Q [] []))) := by kernel_rfl
set_option maxHeartbeats 4000000 in
theorem zX5_holds : (L2.zX5).Holds Tryz.prog L2.ro := FSpec.holdsV (cfg := withS (L2.cfg Tryz.prog) [L2.zCp]) [] 20 200 zx1_ok mixed (t := zX5_t) zX5_tree (by
  show ∀ (v0 v1 : Int) , _
  intro v0 v1  hp hr hl
  replace hr : (((2) : Int) ≤ v0 ∧ v0 ≤ ((9223372036854775807) : Int)) ∧ (((1) : Int) ≤ v1 ∧ v1 ≤ ((9223372036854775807) : Int)) ∧ True := hr
  replace hl : True := hl
  show zX5_t.dn ⟨_, []⟩ 2 [v1, v0] 0 []
  rw [zX5_vc]
  repeat' first | refine And.intro ?_ ?_ | intro _
  all_goals trivial)
noncomputable def zX6_t : Tree := .both (.call 31 (Go.Sx.L2.pCopy3).rel [.v 0, .v 1] [] 2 0 (.both (.done [] []) (.done [] []))) (.call 31 (Go.Sx.L2.pCopy3).rel [.v 0, .v 1] [] 2 0 (.done [] []))
theorem zX6_tree : (L2.zX6).exe Tryz.prog (withS (L2.cfg Tryz.prog) [L2.zCp]) [] 20 200 = zX6_t := by kernel_rfl
theorem zX6_vc (Q : List Int → List (List Int) → Prop) (v0 v1 : Int) : zX6_t.dn ⟨Q, []⟩ 2 [v1, v0] 0 [] = (((Go.Sx.L2.pCopy3).rel.pre [v0, v1] [] ∧
(∀ v2 : Int, ∀ v3 : Int, (Go.Sx.L2.pCopy3).rel.post [v0, v1] [] [v2, v3] [] → (Q [] []) ∧
(Q [] []))) ∧
((Go.Sx.L2.pCopy3).rel.pre [v0, v1] [] ∧
(∀ v2 : Int, ∀ v3 : Int, (Go.Sx.L2.pCopy3).rel.post [v0, v1] [] [v2, v3] [] → Q [] []))) := by kernel_rfl
set_option maxHeartbeats 4000000 in
theorem zX6_holds : (L2.zX6).Holds Tryz.prog L2.ro := FSpec.holdsV (cfg := withS (L2.cfg Tryz.prog) [L2.zCp]) [] 20 200 zx1_ok mixed (t := zX6_t) zX6_tree (by
  show ∀ (v0 v1 : Int) , _
  intro v0 v1  hp hr hl
  replace hr : (((2) : Int) ≤ v0 ∧ v0 ≤ ((9223372036854775807) : Int)) ∧ (((1) : Int) ≤ v1 ∧ v1 ≤ ((9223372036854775807) : Int)) ∧ True := hr
  replace hl : True := hl
  show zX6_t.dn ⟨_, []⟩ 2 [v1, v0] 0 []
  rw [zX6_vc]
  repeat' first | refine And.intro ?_ ?_ | intro _
  all_goals trivial)
noncomputable def zX7_t : Tree := .both (.call 31 (Go.Sx.L2.pCopy3).rel [.v 0, .v 1] [] 2 0 (.both (.done [] []) (.done [] []))) (.call 31 (Go.Sx.L2.pCopy3).rel [.v 0, .v 1] [] 2 0 (.done [] []))
theorem zX7_tree : (L2.zX7).exe Tryz.prog (withS (L2.cfg Tryz.prog) [L2.zCp]) [] 20 200 = zX7_t := by kernel_rfl
theorem zX7_vc (Q : List Int → List (List Int) → Prop) (v0 v1 : Int) : zX7_t.dn ⟨Q, []⟩ 2 [v1, v0] 0 [] = (((Go.Sx.L2.pCopy3).rel.pre [v0, v1] [] ∧
(∀ v2 : Int, ∀ v3 : Int, (Go.Sx.L2.pCopy3).rel.post [v0, v1] [] [v2, v3] [] → (Q [] []) ∧
(Q [] []))) ∧
((Go.Sx.L2.pCopy3).rel.pre [v0, v1] [] ∧
(∀ v2 : Int, ∀ v3 : Int, (Go.Sx.L2.pCopy3).rel.post [v0, v1] [] [v2, v3] [] → Q [] []))) := by kernel_rfl
set_option maxHeartbeats 4000000 in
theorem zX7_holds : (L2.zX7).Holds Tryz.prog L2.ro := FSpec.holdsV (cfg := withS (L2.cfg Tryz.prog) [L2.zCp]) [] 20 200 zx1_ok mixed (t := zX7_t) zX7_tree (by
  show ∀ (v0 v1 : Int) , _
  intro v0 v1  hp hr hl
  replace hr : (((2) : Int) ≤ v0 ∧ v0 ≤ ((9223372036854775807) : Int)) ∧ (((1) : Int) ≤ v1 ∧ v1 ≤ ((9223372036854775807) : Int)) ∧ True := hr
  replace hl : True := hl
  show zX7_t.dn ⟨_, []⟩ 2 [v1, v0] 0 []
  rw [zX7_vc]
  repeat' first | refine And.intro ?_ ?_ | intro _
  all_goals trivial)
end Go.Proofs.YtbeeilndeglnhaaGreatDoor
