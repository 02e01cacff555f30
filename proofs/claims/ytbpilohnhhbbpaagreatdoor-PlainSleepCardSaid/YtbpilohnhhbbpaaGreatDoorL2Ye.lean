/- Contract: no error told. -/
import Derived.Test.YtbpilohnhhbbpaaGreatDoorL2Yc
import Derived.Test.YtbpilohnhhbbpaaGreatDoorL2Ys
set_option linter.unusedVariables false
set_option linter.constructorNameAsVariable false
set_option linter.unusedSimpArgs false
open Go Go.Sx
namespace Go.Proofs.YtbpilohnhhbbpaaGreatDoor
set_option maxRecDepth 100000
theorem ye_ok : (withS (L2.cfg Tryz.prog) [L2.qSC, L2.qS4]).Ok Tryz.prog := withS_ok cfg_ok ⟨qSC_holds, qS4_holds, trivial⟩
noncomputable def qSE_t : Tree := .both (.call 24 (Go.Sx.L2.qSC).rel [.v 0, .v 1] [0] 2 1 (.both (.call 10 (Go.Sx.L2.qS4).rel [.v 5, .v 6, .v 2, .v 3, .v 4] [1] 2 0 (.letI (.not (.v 8)) (.ite (.v 9) (.done [] []) (.done [] [])))) (.call 10 (Go.Sx.L2.qS4).rel [.v 5, .v 6, .v 2, .v 3, .v 4] [1] 2 0 (.letI (.not (.v 8)) (.ite (.v 9) (.done [] []) (.done [] [])))))) (.call 24 (Go.Sx.L2.qSC).rel [.v 0, .v 1] [0] 2 1 (.call 10 (Go.Sx.L2.qS4).rel [.v 5, .v 6, .v 2, .v 3, .v 4] [1] 2 0 (.letI (.not (.v 8)) (.ite (.v 9) (.done [] []) (.done [] [])))))
theorem qSE_tree : (L2.qSE).exe Tryz.prog (withS (L2.cfg Tryz.prog) [L2.qSC, L2.qS4]) [] 20 200 = qSE_t := by kernel_rfl
theorem qSE_vc (Q : List Int → List (List Int) → Prop) (v0 v1 v2 v3 v4 : Int) (L0 : List Int) : qSE_t.dn ⟨Q, []⟩ 5 [v4, v3, v2, v1, v0] 1 [L0] = (((Go.Sx.L2.qSC).rel.pre [v0, v1] [L0] ∧
(∀ v5 : Int, ∀ v6 : Int, ∀ L1 : List Int, (Go.Sx.L2.qSC).rel.post [v0, v1] [L0] [v5, v6] [L1] → ((Go.Sx.L2.qS4).rel.pre [v5, v6, v2, v3, v4] [L1] ∧
(∀ v7 : Int, ∀ v8 : Int, (Go.Sx.L2.qS4).rel.post [v5, v6, v2, v3, v4] [L1] [v7, v8] [] → ∀ v9 : Int, v9 = b2i (v8 == 0) → (v9 ≠ 0 → Q [] []) ∧
(v9 = 0 → Q [] []))) ∧
((Go.Sx.L2.qS4).rel.pre [v5, v6, v2, v3, v4] [L1] ∧
(∀ v7 : Int, ∀ v8 : Int, (Go.Sx.L2.qS4).rel.post [v5, v6, v2, v3, v4] [L1] [v7, v8] [] → ∀ v9 : Int, v9 = b2i (v8 == 0) → (v9 ≠ 0 → Q [] []) ∧
(v9 = 0 → Q [] []))))) ∧
((Go.Sx.L2.qSC).rel.pre [v0, v1] [L0] ∧
(∀ v5 : Int, ∀ v6 : Int, ∀ L1 : List Int, (Go.Sx.L2.qSC).rel.post [v0, v1] [L0] [v5, v6] [L1] → (Go.Sx.L2.qS4).rel.pre [v5, v6, v2, v3, v4] [L1] ∧
(∀ v7 : Int, ∀ v8 : Int, (Go.Sx.L2.qS4).rel.post [v5, v6, v2, v3, v4] [L1] [v7, v8] [] → ∀ v9 : Int, v9 = b2i (v8 == 0) → (v9 ≠ 0 → Q [] []) ∧
(v9 = 0 → Q [] []))))) := by kernel_rfl
set_option maxHeartbeats 4000000 in
theorem qSE_holds : (L2.qSE).Holds Tryz.prog L2.ro := FSpec.holdsV (cfg := withS (L2.cfg Tryz.prog) [L2.qSC, L2.qS4]) [] 20 200 ye_ok mixed (t := qSE_t) qSE_tree (by
  show ∀ (v0 v1 v2 v3 v4 : Int) (L0 : List Int), _
  intro v0 v1 v2 v3 v4 L0 hp hr hl
  replace hr : (((2) : Int) ≤ v0 ∧ v0 ≤ ((9223372036854775807) : Int)) ∧ (((1) : Int) ≤ v1 ∧ v1 ≤ ((9223372036854775807) : Int)) ∧ (((0) : Int) ≤ v2 ∧ v2 ≤ ((15) : Int)) ∧ (((1) : Int) ≤ v3 ∧ v3 ≤ ((4) : Int)) ∧ (((0) : Int) ≤ v4 ∧ v4 ≤ ((18446744073709551615) : Int)) ∧ True := hr
  replace hl : (∀ x ∈ L0, (((0) : Int) ≤ x ∧ x ≤ ((18446744073709551615) : Int))) ∧ True := hl
  show qSE_t.dn ⟨_, []⟩ 5 [v4, v3, v2, v1, v0] 1 [L0]
  rw [qSE_vc]
  have n0 : L0.length = 16 := hp
  repeat' first | refine And.intro ?_ ?_ | intro _
  all_goals first | trivial | exact n0 | skip
  all_goals grind)
end Go.Proofs.YtbpilohnhhbbpaaGreatDoor
