/- Contracts: errors told at a closed state. -/
import Derived.Test.YtbeeilndeglnhaaGreatDoorL2Zc
set_option linter.unusedVariables false
set_option linter.unusedSimpArgs false
open Go Go.Sx
namespace Go.Proofs.YtbeeilndeglnhaaGreatDoor
set_option maxRecDepth 100000
theorem zx2_ok : (withS (L2.cfg Tryz.prog) [L2.zCp]).Ok Tryz.prog := withS_ok cfg_ok ⟨zCp_holds, trivial⟩
noncomputable def zX8_t : Tree := .both (.call 31 (Go.Sx.L2.pCopy3).rel [.v 0, .v 1] [] 2 0 (.both (.done [] []) (.done [] []))) (.call 31 (Go.Sx.L2.pCopy3).rel [.v 0, .v 1] [] 2 0 (.done [] []))
theorem zX8_tree : (L2.zX8).exe Tryz.prog (withS (L2.cfg Tryz.prog) [L2.zCp]) [] 20 200 = zX8_t := by kernel_rfl
theorem zX8_vc (Q : List Int → List (List Int) → Prop) (v0 v1 : Int) : zX8_t.dn ⟨Q, []⟩ 2 [v1, v0] 0 [] = (((Go.Sx.L2.pCopy3).rel.pre [v0, v1] [] ∧
(∀ v2 : Int, ∀ v3 : Int, (Go.Sx.L2.pCopy3).rel.post [v0, v1] [] [v2, v3] [] → (Q [] []) ∧
(Q [] []))) ∧
((Go.Sx.L2.pCopy3).rel.pre [v0, v1] [] ∧
(∀ v2 : Int, ∀ v3 : Int, (Go.Sx.L2.pCopy3).rel.post [v0, v1] [] [v2, v3] [] → Q [] []))) := by kernel_rfl
set_option maxHeartbeats 4000000 in
theorem zX8_holds : (L2.zX8).Holds Tryz.prog L2.ro := FSpec.holdsV (cfg := withS (L2.cfg Tryz.prog) [L2.zCp]) [] 20 200 zx2_ok mixed (t := zX8_t) zX8_tree (by
  show ∀ (v0 v1 : Int) , _
  intro v0 v1  hp hr hl
  replace hr : (((2) : Int) ≤ v0 ∧ v0 ≤ ((9223372036854775807) : Int)) ∧ (((1) : Int) ≤ v1 ∧ v1 ≤ ((9223372036854775807) : Int)) ∧ True := hr
  replace hl : True := hl
  show zX8_t.dn ⟨_, []⟩ 2 [v1, v0] 0 []
  rw [zX8_vc]
  repeat' first | refine And.intro ?_ ?_ | intro _
  all_goals trivial)
noncomputable def zX9_t : Tree := .both (.call 31 (Go.Sx.L2.pCopy3).rel [.v 0, .v 1] [] 2 0 (.both (.both (.done [] []) (.done [] [])) (.both (.done [] []) (.done [] [])))) (.call 31 (Go.Sx.L2.pCopy3).rel [.v 0, .v 1] [] 2 0 (.both (.done [] []) (.done [] [])))
theorem zX9_tree : (L2.zX9).exe Tryz.prog (withS (L2.cfg Tryz.prog) [L2.zCp]) [] 20 200 = zX9_t := by kernel_rfl
theorem zX9_vc (Q : List Int → List (List Int) → Prop) (v0 v1 : Int) : zX9_t.dn ⟨Q, []⟩ 2 [v1, v0] 0 [] = (((Go.Sx.L2.pCopy3).rel.pre [v0, v1] [] ∧
(∀ v2 : Int, ∀ v3 : Int, (Go.Sx.L2.pCopy3).rel.post [v0, v1] [] [v2, v3] [] → ((Q [] []) ∧
(Q [] [])) ∧
((Q [] []) ∧
(Q [] [])))) ∧
((Go.Sx.L2.pCopy3).rel.pre [v0, v1] [] ∧
(∀ v2 : Int, ∀ v3 : Int, (Go.Sx.L2.pCopy3).rel.post [v0, v1] [] [v2, v3] [] → (Q [] []) ∧
(Q [] [])))) := by kernel_rfl
set_option maxHeartbeats 4000000 in
theorem zX9_holds : (L2.zX9).Holds Tryz.prog L2.ro := FSpec.holdsV (cfg := withS (L2.cfg Tryz.prog) [L2.zCp]) [] 20 200 zx2_ok mixed (t := zX9_t) zX9_tree (by
  show ∀ (v0 v1 : Int) , _
  intro v0 v1  hp hr hl
  replace hr : (((2) : Int) ≤ v0 ∧ v0 ≤ ((9223372036854775807) : Int)) ∧ (((1) : Int) ≤ v1 ∧ v1 ≤ ((9223372036854775807) : Int)) ∧ True := hr
  replace hl : True := hl
  show zX9_t.dn ⟨_, []⟩ 2 [v1, v0] 0 []
  rw [zX9_vc]
  repeat' first | refine And.intro ?_ ?_ | intro _
  all_goals trivial)
noncomputable def zX10_t : Tree := .both (.call 31 (Go.Sx.L2.pCopy3).rel [.v 0, .v 1] [] 2 0 (.both (.done [] []) (.done [] []))) (.call 31 (Go.Sx.L2.pCopy3).rel [.v 0, .v 1] [] 2 0 (.done [] []))
theorem zX10_tree : (L2.zX10).exe Tryz.prog (withS (L2.cfg Tryz.prog) [L2.zCp]) [] 20 200 = zX10_t := by kernel_rfl
theorem zX10_vc (Q : List Int → List (List Int) → Prop) (v0 v1 : Int) : zX10_t.dn ⟨Q, []⟩ 2 [v1, v0] 0 [] = (((Go.Sx.L2.pCopy3).rel.pre [v0, v1] [] ∧
(∀ v2 : Int, ∀ v3 : Int, (Go.Sx.L2.pCopy3).rel.post [v0, v1] [] [v2, v3] [] → (Q [] []) ∧
(Q [] []))) ∧
((Go.Sx.L2.pCopy3).rel.pre [v0, v1] [] ∧
(∀ v2 : Int, ∀ v3 : Int, (Go.Sx.L2.pCopy3).rel.post [v0, v1] [] [v2, v3] [] → Q [] []))) := by kernel_rfl
set_option maxHeartbeats 4000000 in
theorem zX10_holds : (L2.zX10).Holds Tryz.prog L2.ro := FSpec.holdsV (cfg := withS (L2.cfg Tryz.prog) [L2.zCp]) [] 20 200 zx2_ok mixed (t := zX10_t) zX10_tree (by
  show ∀ (v0 v1 : Int) , _
  intro v0 v1  hp hr hl
  replace hr : (((2) : Int) ≤ v0 ∧ v0 ≤ ((9223372036854775807) : Int)) ∧ (((1) : Int) ≤ v1 ∧ v1 ≤ ((9223372036854775807) : Int)) ∧ True := hr
  replace hl : True := hl
  show zX10_t.dn ⟨_, []⟩ 2 [v1, v0] 0 []
  rw [zX10_vc]
  repeat' first | refine And.intro ?_ ?_ | intro _
  all_goals trivial)
noncomputable def zX11_t : Tree := .both (.call 31 (Go.Sx.L2.pCopy3).rel [.v 0, .v 1] [] 2 0 (.both (.done [] []) (.done [] []))) (.call 31 (Go.Sx.L2.pCopy3).rel [.v 0, .v 1] [] 2 0 (.done [] []))
theorem zX11_tree : (L2.zX11).exe Tryz.prog (withS (L2.cfg Tryz.prog) [L2.zCp]) [] 20 200 = zX11_t := by kernel_rfl
theorem zX11_vc (Q : List Int → List (List Int) → Prop) (v0 v1 : Int) : zX11_t.dn ⟨Q, []⟩ 2 [v1, v0] 0 [] = (((Go.Sx.L2.pCopy3).rel.pre [v0, v1] [] ∧
(∀ v2 : Int, ∀ v3 : Int, (Go.Sx.L2.pCopy3).rel.post [v0, v1] [] [v2, v3] [] → (Q [] []) ∧
(Q [] []))) ∧
((Go.Sx.L2.pCopy3).rel.pre [v0, v1] [] ∧
(∀ v2 : Int, ∀ v3 : Int, (Go.Sx.L2.pCopy3).rel.post [v0, v1] [] [v2, v3] [] → Q [] []))) := by kernel_rfl
set_option maxHeartbeats 4000000 in
theorem zX11_holds : (L2.zX11).Holds Tryz.prog L2.ro := FSpec.holdsV (cfg := withS (L2.cfg Tryz.prog) [L2.zCp]) [] 20 200 zx2_ok mixed (t := zX11_t) zX11_tree (by
  show ∀ (v0 v1 : Int) , _
  intro v0 v1  hp hr hl
  replace hr : (((2) : Int) ≤ v0 ∧ v0 ≤ ((9223372036854775807) : Int)) ∧ (((1) : Int) ≤ v1 ∧ v1 ≤ ((9223372036854775807) : Int)) ∧ True := hr
  replace hl : True := hl
  show zX11_t.dn ⟨_, []⟩ 2 [v1, v0] 0 []
  rw [zX11_vc]
  repeat' first | refine And.intro ?_ ?_ | intro _
  all_goals trivial)
end Go.Proofs.YtbeeilndeglnhaaGreatDoor
