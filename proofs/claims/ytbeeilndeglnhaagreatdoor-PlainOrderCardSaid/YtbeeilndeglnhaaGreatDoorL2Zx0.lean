/- Contracts: errors told at a closed state. -/
import Derived.Test.YtbeeilndeglnhaaGreatDoorL2Zc
set_option linter.unusedVariables false
set_option linter.unusedSimpArgs false
open Go Go.Sx
namespace Go.Proofs.YtbeeilndeglnhaaGreatDoor
set_option maxRecDepth 100000
theorem zx0_ok : (withS (L2.cfg Tryz.prog) [L2.zCp]).Ok Tryz.prog := withS_ok cfg_ok ⟨zCp_holds, trivial⟩
noncomputable def zX0_t : Tree := .both (.call 31 (Go.Sx.L2.pCopy3).rel [.v 0, .v 1] [] 2 0 (.both (.done [] []) (.done [] []))) (.call 31 (Go.Sx.L2.pCopy3).rel [.v 0, .v 1] [] 2 0 (.done [] []))
theorem zX0_tree : (L2.zX0).exe Tryz.prog (withS (L2.cfg Tryz.prog) [L2.zCp]) [] 20 200 = zX0_t := by kernel_rfl
theorem zX0_vc (Q : List Int → List (List Int) → Prop) (v0 v1 : Int) : zX0_t.dn ⟨Q, []⟩ 2 [v1, v0] 0 [] = (((Go.Sx.L2.pCopy3).rel.pre [v0, v1] [] ∧
(∀ v2 : Int, ∀ v3 : Int, (Go.Sx.L2.pCopy3).rel.post [v0, v1] [] [v2, v3] [] → (Q [] []) ∧
(Q [] []))) ∧
((Go.Sx.L2.pCopy3).rel.pre [v0, v1] [] ∧
(∀ v2 : Int, ∀ v3 : Int, (Go.Sx.L2.pCopy3).rel.post [v0, v1] [] [v2, v3] [] → Q [] []))) := by kernel_rfl
set_option maxHeartbeats 4000000 in
theorem zX0_holds : (L2.zX0).Holds Tryz.prog L2.ro := FSpec.holdsV (cfg := withS (L2.cfg Tryz.prog) [L2.zCp]) [] 20 200 zx0_ok mixed (t := zX0_t) zX0_tree (by
  show ∀ (v0 v1 : Int) , _
  intro v0 v1  hp hr hl
  replace hr : (((2) : Int) ≤ v0 ∧ v0 ≤ ((9223372036854775807) : Int)) ∧ (((1) : Int) ≤ v1 ∧ v1 ≤ ((9223372036854775807) : Int)) ∧ True := hr
  replace hl : True := hl
  show zX0_t.dn ⟨_, []⟩ 2 [v1, v0] 0 []
  rw [zX0_vc]
  repeat' first | refine And.intro ?_ ?_ | intro _
  all_goals trivial)
noncomputable def zX1_t : Tree := .both (.call 31 (Go.Sx.L2.pCopy3).rel [.v 0, .v 1] [] 2 0 (.both (.done [] []) (.done [] []))) (.call 31 (Go.Sx.L2.pCopy3).rel [.v 0, .v 1] [] 2 0 (.done [] []))
theorem zX1_tree : (L2.zX1).exe Tryz.prog (withS (L2.cfg Tryz.prog) [L2.zCp]) [] 20 200 = zX1_t := by kernel_rfl
theorem zX1_vc (Q : List Int → List (List Int) → Prop) (v0 v1 : Int) : zX1_t.dn ⟨Q, []⟩ 2 [v1, v0] 0 [] = (((Go.Sx.L2.pCopy3).rel.pre [v0, v1] [] ∧
(∀ v2 : Int, ∀ v3 : Int, (Go.Sx.L2.pCopy3).rel.post [v0, v1] [] [v2, v3] [] → (Q [] []) ∧
(Q [] []))) ∧
((Go.Sx.L2.pCopy3).rel.pre [v0, v1] [] ∧
(∀ v2 : Int, ∀ v3 : Int, (Go.Sx.L2.pCopy3).rel.post [v0, v1] [] [v2, v3] [] → Q [] []))) := by kernel_rfl
set_option maxHeartbeats 4000000 in
theorem zX1_holds : (L2.zX1).Holds Tryz.prog L2.ro := FSpec.holdsV (cfg := withS (L2.cfg Tryz.prog) [L2.zCp]) [] 20 200 zx0_ok mixed (t := zX1_t) zX1_tree (by
  show ∀ (v0 v1 : Int) , _
  intro v0 v1  hp hr hl
  replace hr : (((2) : Int) ≤ v0 ∧ v0 ≤ ((9223372036854775807) : Int)) ∧ (((1) : Int) ≤ v1 ∧ v1 ≤ ((9223372036854775807) : Int)) ∧ True := hr
  replace hl : True := hl
  show zX1_t.dn ⟨_, []⟩ 2 [v1, v0] 0 []
  rw [zX1_vc]
  repeat' first | refine And.intro ?_ ?_ | intro _
  all_goals trivial)
noncomputable def zX2_t : Tree := .both (.call 31 (Go.Sx.L2.pCopy3).rel [.v 0, .v 1] [] 2 0 (.both (.done [] []) (.done [] []))) (.call 31 (Go.Sx.L2.pCopy3).rel [.v 0, .v 1] [] 2 0 (.done [] []))
theorem zX2_tree : (L2.zX2).exe Tryz.prog (withS (L2.cfg Tryz.prog) [L2.zCp]) [] 20 200 = zX2_t := by kernel_rfl
theorem zX2_vc (Q : List Int → List (List Int) → Prop) (v0 v1 : Int) : zX2_t.dn ⟨Q, []⟩ 2 [v1, v0] 0 [] = (((Go.Sx.L2.pCopy3).rel.pre [v0, v1] [] ∧
(∀ v2 : Int, ∀ v3 : Int, (Go.Sx.L2.pCopy3).rel.post [v0, v1] [] [v2, v3] [] → (Q [] []) ∧
(Q [] []))) ∧
((Go.Sx.L2.pCopy3).rel.pre [v0, v1] [] ∧
(∀ v2 : Int, ∀ v3 : Int, (Go.Sx.L2.pCopy3).rel.post [v0, v1] [] [v2, v3] [] → Q [] []))) := by kernel_rfl
set_option maxHeartbeats 4000000 in
theorem zX2_holds : (L2.zX2).Holds Tryz.prog L2.ro := FSpec.holdsV (cfg := withS (L2.cfg Tryz.prog) [L2.zCp]) [] 20 200 zx0_ok mixed (t := zX2_t) zX2_tree (by
  show ∀ (v0 v1 : Int) , _
  intro v0 v1  hp hr hl
  replace hr : (((2) : Int) ≤ v0 ∧ v0 ≤ ((9223372036854775807) : Int)) ∧ (((1) : Int) ≤ v1 ∧ v1 ≤ ((9223372036854775807) : Int)) ∧ True := hr
  replace hl : True := hl
  show zX2_t.dn ⟨_, []⟩ 2 [v1, v0] 0 []
  rw [zX2_vc]
  repeat' first | refine And.intro ?_ ?_ | intro _
  all_goals trivial)
noncomputable def zX3_t : Tree := .both (.call 31 (Go.Sx.L2.pCopy3).rel [.v 0, .v 1] [] 2 0 (.both (.done [] []) (.done [] []))) (.call 31 (Go.Sx.L2.pCopy3).rel [.v 0, .v 1] [] 2 0 (.done [] []))
theorem zX3_tree : (L2.zX3).exe Tryz.prog (withS (L2.cfg Tryz.prog) [L2.zCp]) [] 20 200 = zX3_t := by kernel_rfl
theorem zX3_vc (Q : List Int → List (List Int) → Prop) (v0 v1 : Int) : zX3_t.dn ⟨Q, []⟩ 2 [v1, v0] 0 [] = (((Go.Sx.L2.pCopy3).rel.pre [v0, v1] [] ∧
(∀ v2 : Int, ∀ v3 : Int, (Go.Sx.L2.pCopy3).rel.post [v0, v1] [] [v2, v3] [] → (Q [] []) ∧
(Q [] []))) ∧
((Go.Sx.L2.pCopy3).rel.pre [v0, v1] [] ∧
(∀ v2 : Int, ∀ v3 : Int, (Go.Sx.L2.pCopy3).rel.post [v0, v1] [] [v2, v3] [] → Q [] []))) := by kernel_rfl
set_option maxHeartbeats 4000000 in
theorem zX3_holds : (L2.zX3).Holds Tryz.prog L2.ro := FSpec.holdsV (cfg := withS (L2.cfg Tryz.prog) [L2.zCp]) [] 20 200 zx0_ok mixed (t := zX3_t) zX3_tree (by
  show ∀ (v0 v1 : Int) , _
  intro v0 v1  hp hr hl
  replace hr : (((2) : Int) ≤ v0 ∧ v0 ≤ ((9223372036854775807) : Int)) ∧ (((1) : Int) ≤ v1 ∧ v1 ≤ ((9223372036854775807) : Int)) ∧ True := hr
  replace hl : True := hl
  show zX3_t.dn ⟨_, []⟩ 2 [v1, v0] 0 []
  rw [zX3_vc]
  repeat' first | refine And.intro ?_ ?_ | intro _
  all_goals trivial)
end Go.Proofs.YtbeeilndeglnhaaGreatDoor
