/- The executor: texts of it, one behind another. -/
import Derived.Test.YtpmgfdakljjlaaaGreatDoorL2Facts
import Derived.Test.YtpmgfdakljjlaaaGreatDoorSxM7
import Derived.Test.YtpmgfdakljjlaaaGreatDoorL2P
set_option linter.unusedVariables false
set_option linter.constructorNameAsVariable false
/- Contract: a memory of two frames. -/
set_option linter.unusedVariables false
set_option linter.unusedSimpArgs false
open Go Go.Sx
namespace Go.Proofs.YtpmgfdakljjlaaaGreatDoor
set_option maxRecDepth 100000
noncomputable def mNew2_t : Tree := .any (.c 1) (.c 9223372036854775807) (.any (.c 2) (.c 9223372036854775807) (.done [.v 1] []))
theorem mNew2_tree : (L2.mNew2).exe Tryz.prog (L2.cfg Tryz.prog) [] 20 200 = mNew2_t := by kernel_rfl
theorem mNew2_vc (Q : List Int → List (List Int) → Prop) : mNew2_t.dn ⟨Q, []⟩ 0 [] 0 [] = (∀ v0 : Int, (1 : Int) ≤ v0 → v0 ≤ (9223372036854775807 : Int) → ∀ v1 : Int, (2 : Int) ≤ v1 → v1 ≤ (9223372036854775807 : Int) → Q [v1] []) := by kernel_rfl
set_option maxHeartbeats 4000000 in
theorem mNew2_holds : (L2.mNew2).Holds Tryz.prog L2.ro := FSpec.holdsV (cfg := L2.cfg Tryz.prog) [] 20 200 cfg_ok mixed (t := mNew2_t) mNew2_tree (by
  show _ → _
  intro   hp hr hl
  replace hr : True := hr
  replace hl : True := hl
  show mNew2_t.dn ⟨_, []⟩ 0 [] 0 []
  rw [mNew2_vc]
  repeat' first | refine And.intro ?_ ?_ | intro _
  all_goals trivial)
end Go.Proofs.YtpmgfdakljjlaaaGreatDoor
/- Contract: a kernel of two environments and two frames. -/
set_option linter.unusedVariables false
set_option linter.unusedSimpArgs false
open Go Go.Sx
namespace Go.Proofs.YtpmgfdakljjlaaaGreatDoor
set_option maxRecDepth 100000
theorem pa_ok : (withS (L2.cfg Tryz.prog) [L2.mNew2]).Ok Tryz.prog := withS_ok cfg_ok ⟨mNew2_holds, trivial⟩
noncomputable def pNew2_t : Tree := .call 26 (Go.Sx.L2.mNew2).rel [] [] 1 0 (.any (.c 1) (.c 9223372036854775807) (.any (.c 2) (.c 9223372036854775807) (.done [.v 2, .v 0] [])))
theorem pNew2_tree : (L2.pNew2).exe Tryz.prog (withS (L2.cfg Tryz.prog) [L2.mNew2]) [] 20 200 = pNew2_t := by kernel_rfl
theorem pNew2_vc (Q : List Int → List (List Int) → Prop) : pNew2_t.dn ⟨Q, []⟩ 0 [] 0 [] = ((Go.Sx.L2.mNew2).rel.pre [] [] ∧
(∀ v0 : Int, (Go.Sx.L2.mNew2).rel.post [] [] [v0] [] → ∀ v1 : Int, (1 : Int) ≤ v1 → v1 ≤ (9223372036854775807 : Int) → ∀ v2 : Int, (2 : Int) ≤ v2 → v2 ≤ (9223372036854775807 : Int) → Q [v2, v0] [])) := by kernel_rfl
set_option maxHeartbeats 4000000 in
theorem pNew2_holds : (L2.pNew2).Holds Tryz.prog L2.ro := FSpec.holdsV (cfg := withS (L2.cfg Tryz.prog) [L2.mNew2]) [] 20 200 pa_ok mixed (t := pNew2_t) pNew2_tree (by
  show _ → _
  intro   hp hr hl
  replace hr : True := hr
  replace hl : True := hl
  show pNew2_t.dn ⟨_, []⟩ 0 [] 0 []
  rw [pNew2_vc]
  repeat' first | refine And.intro ?_ ?_ | intro _
  all_goals trivial)
end Go.Proofs.YtpmgfdakljjlaaaGreatDoor
/- Contract: a kernel's copy. -/
set_option linter.unusedVariables false
set_option linter.unusedSimpArgs false
open Go Go.Sx
namespace Go.Proofs.YtpmgfdakljjlaaaGreatDoor
set_option maxRecDepth 100000
theorem pb_ok : (withS (L2.cfg Tryz.prog) [L2.pNew2]).Ok Tryz.prog := withS_ok cfg_ok ⟨pNew2_holds, trivial⟩
noncomputable def pCopy3_t : Tree := .call 22 (Go.Sx.L2.pNew2).rel [] [] 2 0 (.any (.c 16) (.c 9223372036854775807) (.any (.c 16) (.c 9223372036854775807) (.done [.v 2, .v 3] [])))
theorem pCopy3_tree : (L2.pCopy3).exe Tryz.prog (withS (L2.cfg Tryz.prog) [L2.pNew2]) [] 20 200 = pCopy3_t := by kernel_rfl
theorem pCopy3_vc (Q : List Int → List (List Int) → Prop) (v0 v1 : Int) : pCopy3_t.dn ⟨Q, []⟩ 2 [v1, v0] 0 [] = ((Go.Sx.L2.pNew2).rel.pre [] [] ∧
(∀ v2 : Int, ∀ v3 : Int, (Go.Sx.L2.pNew2).rel.post [] [] [v2, v3] [] → ∀ v4 : Int, (16 : Int) ≤ v4 → v4 ≤ (9223372036854775807 : Int) → ∀ v5 : Int, (16 : Int) ≤ v5 → v5 ≤ (9223372036854775807 : Int) → Q [v2, v3] [])) := by kernel_rfl
set_option maxHeartbeats 4000000 in
theorem pCopy3_holds : (L2.pCopy3).Holds Tryz.prog L2.ro := FSpec.holdsV (cfg := withS (L2.cfg Tryz.prog) [L2.pNew2]) [] 20 200 pb_ok mixed (t := pCopy3_t) pCopy3_tree (by
  show ∀ (v0 v1 : Int) , _
  intro v0 v1  hp hr hl
  replace hr : (((2) : Int) ≤ v0 ∧ v0 ≤ ((9223372036854775807) : Int)) ∧ (((2) : Int) ≤ v1 ∧ v1 ≤ ((9223372036854775807) : Int)) ∧ True := hr
  replace hl : True := hl
  show pCopy3_t.dn ⟨_, []⟩ 2 [v1, v0] 0 []
  rw [pCopy3_vc]
  repeat' first | refine And.intro ?_ ?_ | intro _
  all_goals trivial)
end Go.Proofs.YtpmgfdakljjlaaaGreatDoor
/- Contract: a call's error told. -/
set_option linter.unusedVariables false
set_option linter.unusedSimpArgs false
open Go Go.Sx
namespace Go.Proofs.YtpmgfdakljjlaaaGreatDoor
set_option maxRecDepth 100000
theorem pc_ok : (withS (L2.cfg Tryz.prog) [L2.pCopy3]).Ok Tryz.prog := withS_ok cfg_ok ⟨pCopy3_holds, trivial⟩
noncomputable def pErr3_t : Tree := .both (.call 77 (Go.Sx.L2.pCopy3).rel [.v 0, .v 1] [] 2 0 (.both (.done [] []) (.done [] []))) (.call 77 (Go.Sx.L2.pCopy3).rel [.v 0, .v 1] [] 2 0 (.done [] []))
theorem pErr3_tree : (L2.pErr3).exe Tryz.prog (withS (L2.cfg Tryz.prog) [L2.pCopy3]) [] 20 200 = pErr3_t := by kernel_rfl
theorem pErr3_vc (Q : List Int → List (List Int) → Prop) (v0 v1 : Int) : pErr3_t.dn ⟨Q, []⟩ 2 [v1, v0] 0 [] = (((Go.Sx.L2.pCopy3).rel.pre [v0, v1] [] ∧
(∀ v2 : Int, ∀ v3 : Int, (Go.Sx.L2.pCopy3).rel.post [v0, v1] [] [v2, v3] [] → (Q [] []) ∧
(Q [] []))) ∧
((Go.Sx.L2.pCopy3).rel.pre [v0, v1] [] ∧
(∀ v2 : Int, ∀ v3 : Int, (Go.Sx.L2.pCopy3).rel.post [v0, v1] [] [v2, v3] [] → Q [] []))) := by kernel_rfl
set_option maxHeartbeats 4000000 in
theorem pErr3_holds : (L2.pErr3).Holds Tryz.prog L2.ro := FSpec.holdsV (cfg := withS (L2.cfg Tryz.prog) [L2.pCopy3]) [] 20 200 pc_ok mixed (t := pErr3_t) pErr3_tree (by
  show ∀ (v0 v1 : Int) , _
  intro v0 v1  hp hr hl
  replace hr : (((2) : Int) ≤ v0 ∧ v0 ≤ ((9223372036854775807) : Int)) ∧ (((2) : Int) ≤ v1 ∧ v1 ≤ ((9223372036854775807) : Int)) ∧ True := hr
  replace hl : True := hl
  show pErr3_t.dn ⟨_, []⟩ 2 [v1, v0] 0 []
  rw [pErr3_vc]
  repeat' first | refine And.intro ?_ ?_ | intro _
  all_goals trivial)
end Go.Proofs.YtpmgfdakljjlaaaGreatDoor
