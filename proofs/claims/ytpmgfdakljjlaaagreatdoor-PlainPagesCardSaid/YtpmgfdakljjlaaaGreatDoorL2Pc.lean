/- Contract: a kernel's copy. -/
import Derived.Test.YtpmgfdakljjlaaaGreatDoorL2Pb
set_option linter.unusedVariables false
set_option linter.constructorNameAsVariable false
set_option linter.unusedSimpArgs false
open Go Go.Sx
namespace Go.Proofs.YtpmgfdakljjlaaaGreatDoor
set_option maxRecDepth 100000
theorem pb_ok : (withS (L2.cfg Tryz.prog) [L2.pNew2]).Ok Tryz.prog := withS_ok cfg_ok ⟨pNew2_holds, trivial⟩
noncomputable def pCopy3_t : Tree := .call 22 (Go.Sx.L2.pNew2).rel [] [] 2 0 (.any (.c 16) (.c 9223372036854775807) (.any (.c 16) (.c 9223372036854775807) (.done [.v 2, .v 3] [])))
theorem pCopy3_tree : (L2.pCopy3).exe Tryz.prog (withS (L2.cfg Tryz.prog) [L2.pNew2]) [] 20 200 = pCopy3_t := by kernel_rfl
theorem pCopy3_vc (Q : List Int → List (List Int) → Prop) (v0 v1 : Int) : pCopy3_t.dn ⟨Q, []⟩ 2 [v1, v0] 0 [] = ((Go.Sx.L2.pNew2).rel.pre [] [] ∧
(∀ v2 : Int, ∀ v3 : Int, (Go.Sx.L2.pNew2).rel.post [] [] [v2, v3] [] → ∀ v4 : Int, (16 : Int) ≤ v4 → v4 ≤ (9223372036854775807 : Int) → ∀ v5 : Int, (16 : Int) ≤ v5 → v5 ≤ (9223372036854775807 : Int) → Q [v2, v3] [])) := by kernel_rfl
set_option maxHeartbeats 4000000 in
theorem pCopy3_holds : (L2.pCopy3).Holds Tryz.prog L2.ro := FSpec.holdsV (cfg := withS (L2.cfg Tryz.prog) [L2.pNew2]) [] 20 200 pb_ok mixed (t := pCopy3_t) pCopy3_tree (by
  show ∀ (v0 v1 : Int) , _
  intro v0 v1  hp hr hl
  replace hr : (((2) : Int) ≤ v0 ∧ v0 ≤ ((9223372036854775807) : Int)) ∧ (((2) : Int) ≤ v1 ∧ v1 ≤ ((9223372036854775807) : Int)) ∧ True := hr
  replace hl : True := hl
  show pCopy3_t.dn ⟨_, []⟩ 2 [v1, v0] 0 []
  rw [pCopy3_vc]
  repeat' first | refine And.intro ?_ ?_ | intro _
  all_goals trivial)
end Go.Proofs.YtpmgfdakljjlaaaGreatDoor
