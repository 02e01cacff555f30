/- Contracts: errors told at a closed state. -/
import Derived.Test.YtbeeilndeglnhaaGreatDoorL2Zc
set_option linter.unusedVariables false
set_option linter.unusedSimpArgs false
open Go Go.Sx
namespace Go.Proofs.YtbeeilndeglnhaaGreatDoor
set_option maxRecDepth 100000
theorem zx3_ok : (withS (L2.cfg Tryz.prog) [L2.zCp]).Ok Tryz.prog := withS_ok cfg_ok ⟨zCp_holds, trivial⟩
noncomputable def zX12_t : Tree := .both (.call 31 (Go.Sx.L2.pCopy3).rel [.v 0, .v 1] [] 2 0 (.both (.done [] []) (.done [] []))) (.call 31 (Go.Sx.L2.pCopy3).rel [.v 0, .v 1] [] 2 0 (.done [] []))
theorem zX12_tree : (L2.zX12).exe Tryz.prog (withS (L2.cfg Tryz.prog) [L2.zCp]) [] 20 200 = zX12_t := by kernel_rfl
theorem zX12_vc (Q : List Int → List (List Int) → Prop) (v0 v1 : Int) : zX12_t.dn ⟨Q, []⟩ 2 [v1, v0] 0 [] = (((Go.Sx.L2.pCopy3).rel.pre [v0, v1] [] ∧
(∀ v2 : Int, ∀ v3 : Int, (Go.Sx.L2.pCopy3).rel.post [v0, v1] [] [v2, v3] [] → (Q [] []) ∧
(Q [] []))) ∧
((Go.Sx.L2.pCopy3).rel.pre [v0, v1] [] ∧
(∀ v2 : Int, ∀ v3 : Int, (Go.Sx.L2.pCopy3).rel.post [v0, v1] [] [v2, v3] [] → Q [] []))) := by kernel_rfl
set_option maxHeartbeats 4000000 in
theorem zX12_holds : (L2.zX12).Holds Tryz.prog L2.ro := FSpec.holdsV (cfg := withS (L2.cfg Tryz.prog) [L2.zCp]) [] 20 200 zx3_ok mixed (t := zX12_t) zX12_tree (by
  show ∀ (v0 v1 : Int) , _
  intro v0 v1  hp hr hl
  replace hr : (((2) : Int) ≤ v0 ∧ v0 ≤ ((9223372036854775807) : Int)) ∧ (((1) : Int) ≤ v1 ∧ v1 ≤ ((9223372036854775807) : Int)) ∧ True := hr
  replace hl : True := hl
  show zX12_t.dn ⟨_, []⟩ 2 [v1, v0] 0 []
  rw [zX12_vc]
  repeat' first | refine And.intro ?_ ?_ | intro _
  all_goals trivial)
noncomputable def zX13_t : Tree := .both (.call 31 (Go.Sx.L2.pCopy3).rel [.v 0, .v 1] [] 2 0 (.both (.done [] []) (.done [] []))) (.call 31 (Go.Sx.L2.pCopy3).rel [.v 0, .v 1] [] 2 0 (.done [] []))
theorem zX13_tree : (L2.zX13).exe Tryz.prog (withS (L2.cfg Tryz.prog) [L2.zCp]) [] 20 200 = zX13_t := by kernel_rfl
theorem zX13_vc (Q : List Int → List (List Int) → Prop) (v0 v1 : Int) : zX13_t.dn ⟨Q, []⟩ 2 [v1, v0] 0 [] = (((Go.Sx.L2.pCopy3).rel.pre [v0, v1] [] ∧
(∀ v2 : Int, ∀ v3 : Int, (Go.Sx.L2.pCopy3).rel.post [v0, v1] [] [v2, v3] [] → (Q [] []) ∧
(Q [] []))) ∧
((Go.Sx.L2.pCopy3).rel.pre [v0, v1] [] ∧
(∀ v2 : Int, ∀ v3 : Int, (Go.Sx.L2.pCopy3).rel.post [v0, v1] [] [v2, v3] [] → Q [] []))) := by kernel_rfl
set_option maxHeartbeats 4000000 in
theorem zX13_holds : (L2.zX13).Holds Tryz.prog L2.ro := FSpec.holdsV (cfg := withS (L2.cfg Tryz.prog) [L2.zCp]) [] 20 200 zx3_ok mixed (t := zX13_t) zX13_tree (by
  show ∀ (v0 v1 : Int) , _
  intro v0 v1  hp hr hl
  replace hr : (((2) : Int) ≤ v0 ∧ v0 ≤ ((9223372036854775807) : Int)) ∧ (((1) : Int) ≤ v1 ∧ v1 ≤ ((9223372036854775807) : Int)) ∧ True := hr
  replace hl : True := hl
  show zX13_t.dn ⟨_, []⟩ 2 [v1, v0] 0 []
  rw [zX13_vc]
  repeat' first | refine And.intro ?_ ?_ | intro _
  all_goals trivial)
end Go.Proofs.YtbeeilndeglnhaaGreatDoor
