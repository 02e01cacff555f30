/- Contract: a call's error told. -/
import Derived.Test.YtpmgfdakljjlaaaGreatDoorL2Pc
set_option linter.unusedVariables false
set_option linter.constructorNameAsVariable false
set_option linter.unusedSimpArgs false
open Go Go.Sx
namespace Go.Proofs.YtpmgfdakljjlaaaGreatDoor
set_option maxRecDepth 100000
theorem pc_ok : (withS (L2.cfg Tryz.prog) [L2.pCopy3]).Ok Tryz.prog := withS_ok cfg_ok ⟨pCopy3_holds, trivial⟩
noncomputable def pErr3_t : Tree := .both (.call 77 (Go.Sx.L2.pCopy3).rel [.v 0, .v 1] [] 2 0 (.both (.done [] []) (.done [] []))) (.call 77 (Go.Sx.L2.pCopy3).rel [.v 0, .v 1] [] 2 0 (.done [] []))
theorem pErr3_tree : (L2.pErr3).exe Tryz.prog (withS (L2.cfg Tryz.prog) [L2.pCopy3]) [] 20 200 = pErr3_t := by kernel_rfl
theorem pErr3_vc (Q : List Int → List (List Int) → Prop) (v0 v1 : Int) : pErr3_t.dn ⟨Q, []⟩ 2 [v1, v0] 0 [] = (((Go.Sx.L2.pCopy3).rel.pre [v0, v1] [] ∧
(∀ v2 : Int, ∀ v3 : Int, (Go.Sx.L2.pCopy3).rel.post [v0, v1] [] [v2, v3] [] → (Q [] []) ∧
(Q [] []))) ∧
((Go.Sx.L2.pCopy3).rel.pre [v0, v1] [] ∧
(∀ v2 : Int, ∀ v3 : Int, (Go.Sx.L2.pCopy3).rel.post [v0, v1] [] [v2, v3] [] → Q [] []))) := by kernel_rfl
set_option maxHeartbeats 4000000 in
theorem pErr3_holds : (L2.pErr3).Holds Tryz.prog L2.ro := FSpec.holdsV (cfg := withS (L2.cfg Tryz.prog) [L2.pCopy3]) [] 20 200 pc_ok mixed (t := pErr3_t) pErr3_tree (by
  show ∀ (v0 v1 : Int) , _
  intro v0 v1  hp hr hl
  replace hr : (((2) : Int) ≤ v0 ∧ v0 ≤ ((9223372036854775807) : Int)) ∧ (((2) : Int) ≤ v1 ∧ v1 ≤ ((9223372036854775807) : Int)) ∧ True := hr
  replace hl : True := hl
  show pErr3_t.dn ⟨_, []⟩ 2 [v1, v0] 0 []
  rw [pErr3_vc]
  repeat' first | refine And.intro ?_ ?_ | intro _
  all_goals trivial)
end Go.Proofs.YtpmgfdakljjlaaaGreatDoor
