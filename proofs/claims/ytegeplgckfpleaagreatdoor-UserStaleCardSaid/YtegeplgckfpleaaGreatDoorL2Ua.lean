/- Contract: a walk. -/
import Derived.Test.YtegeplgckfpleaaGreatDoorL2Bt
import Derived.Test.YtegeplgckfpleaaGreatDoorL2Tt
import Derived.Test.YtegeplgckfpleaaGreatDoorL2U
set_option linter.unusedVariables false
set_option linter.unusedSimpArgs false
open Go Go.Sx
namespace Go.Proofs.YtegeplgckfpleaaGreatDoor
set_option maxRecDepth 100000
theorem ua_ok : (withS (L2.cfg Tryz.prog) [L2.lets_ L2.f_pte_Lets, L2.tAt, L2.bFind, L2.bFill, L2.bFlush]).Ok Tryz.prog := withS_ok cfg_ok ⟨pLets_holds, tAt_holds, bFind_holds, bFill_holds, bFlush_holds, trivial⟩
noncomputable def uWalk_t : Tree := .call 20 (Go.Sx.L2.bFind).rel [.v 0, .v 1] [0] 5 0 (.ite (.v 7) (.call 75 (Go.Sx.L2.lets_ Go.Sx.L2.f_pte_Lets).rel [.v 6, .v 2] [] 1 0 (.ite (.v 8) (.done [.v 3, .v 4, .v 5, .v 6, .c (1)] [0]) (.call 21 (Go.Sx.L2.tAt).rel [.v 1] [1] 4 0 (.call 75 (Go.Sx.L2.lets_ Go.Sx.L2.f_pte_Lets).rel [.v 11, .v 2] [] 1 0 (.letI (.not (.v 13)) (.ite (.v 14) (.call 38 (Go.Sx.L2.bFlush).rel [.v 0, .v 1] [0] 1 1 (.done [.c (0), .c (0), .c (0), .c (0), .c (0)] [2])) (.call 18 (Go.Sx.L2.bFill).rel [.v 0, .v 1, .v 9, .v 11] [0] 1 1 (.done [.v 0, .v 1, .v 9, .v 11, .c (1)] [2])))))))) (.call 21 (Go.Sx.L2.tAt).rel [.v 1] [1] 4 0 (.call 75 (Go.Sx.L2.lets_ Go.Sx.L2.f_pte_Lets).rel [.v 10, .v 2] [] 1 0 (.letI (.not (.v 12)) (.ite (.v 13) (.call 38 (Go.Sx.L2.bFlush).rel [.v 0, .v 1] [0] 1 1 (.done [.c (0), .c (0), .c (0), .c (0), .c (0)] [2])) (.call 18 (Go.Sx.L2.bFill).rel [.v 0, .v 1, .v 8, .v 10] [0] 1 1 (.done [.v 0, .v 1, .v 8, .v 10, .c (1)] [2])))))))
theorem uWalk_tree : (L2.uWalk).exe Tryz.prog (withS (L2.cfg Tryz.prog) [L2.lets_ L2.f_pte_Lets, L2.tAt, L2.bFind, L2.bFill, L2.bFlush]) [] 20 200 = uWalk_t := by kernel_rfl
theorem uWalk_vc (Q : List Int → List (List Int) → Prop) (v0 v1 v2 : Int) (L0 L1 : List Int) : uWalk_t.dn ⟨Q, []⟩ 3 [v2, v1, v0] 2 [L1, L0] = ((Go.Sx.L2.bFind).rel.pre [v0, v1] [L0] ∧
(∀ v3 : Int, ∀ v4 : Int, ∀ v5 : Int, ∀ v6 : Int, ∀ v7 : Int, (Go.Sx.L2.bFind).rel.post [v0, v1] [L0] [v3, v4, v5, v6, v7] [] → (v7 ≠ 0 → (Go.Sx.L2.lets_ Go.Sx.L2.f_pte_Lets).rel.pre [v6, v2] [] ∧
(∀ v8 : Int, (Go.Sx.L2.lets_ Go.Sx.L2.f_pte_Lets).rel.post [v6, v2] [] [v8] [] → (v8 ≠ 0 → Q [v3, v4, v5, v6, (1 : Int)] [L0]) ∧
(v8 = 0 → (Go.Sx.L2.tAt).rel.pre [v1] [L1] ∧
(∀ v9 : Int, ∀ v10 : Int, ∀ v11 : Int, ∀ v12 : Int, (Go.Sx.L2.tAt).rel.post [v1] [L1] [v9, v10, v11, v12] [] → (Go.Sx.L2.lets_ Go.Sx.L2.f_pte_Lets).rel.pre [v11, v2] [] ∧
(∀ v13 : Int, (Go.Sx.L2.lets_ Go.Sx.L2.f_pte_Lets).rel.post [v11, v2] [] [v13] [] → ∀ v14 : Int, v14 = b2i (v13 == 0) → (v14 ≠ 0 → (Go.Sx.L2.bFlush).rel.pre [v0, v1] [L0] ∧
(∀ v15 : Int, ∀ L2 : List Int, (Go.Sx.L2.bFlush).rel.post [v0, v1] [L0] [v15] [L2] → Q [(0 : Int), (0 : Int), (0 : Int), (0 : Int), (0 : Int)] [L2])) ∧
(v14 = 0 → (Go.Sx.L2.bFill).rel.pre [v0, v1, v9, v11] [L0] ∧
(∀ v15 : Int, ∀ L2 : List Int, (Go.Sx.L2.bFill).rel.post [v0, v1, v9, v11] [L0] [v15] [L2] → Q [v0, v1, v9, v11, (1 : Int)] [L2]))))))) ∧
(v7 = 0 → (Go.Sx.L2.tAt).rel.pre [v1] [L1] ∧
(∀ v8 : Int, ∀ v9 : Int, ∀ v10 : Int, ∀ v11 : Int, (Go.Sx.L2.tAt).rel.post [v1] [L1] [v8, v9, v10, v11] [] → (Go.Sx.L2.lets_ Go.Sx.L2.f_pte_Lets).rel.pre [v10, v2] [] ∧
(∀ v12 : Int, (Go.Sx.L2.lets_ Go.Sx.L2.f_pte_Lets).rel.post [v10, v2] [] [v12] [] → ∀ v13 : Int, v13 = b2i (v12 == 0) → (v13 ≠ 0 → (Go.Sx.L2.bFlush).rel.pre [v0, v1] [L0] ∧
(∀ v14 : Int, ∀ L2 : List Int, (Go.Sx.L2.bFlush).rel.post [v0, v1] [L0] [v14] [L2] → Q [(0 : Int), (0 : Int), (0 : Int), (0 : Int), (0 : Int)] [L2])) ∧
(v13 = 0 → (Go.Sx.L2.bFill).rel.pre [v0, v1, v8, v10] [L0] ∧
(∀ v14 : Int, ∀ L2 : List Int, (Go.Sx.L2.bFill).rel.post [v0, v1, v8, v10] [L0] [v14] [L2] → Q [v0, v1, v8, v10, (1 : Int)] [L2]))))))) := by kernel_rfl
set_option maxHeartbeats 4000000 in
theorem uWalk_holds : (L2.uWalk).Holds Tryz.prog L2.ro := FSpec.holdsV (cfg := withS (L2.cfg Tryz.prog) [L2.lets_ L2.f_pte_Lets, L2.tAt, L2.bFind, L2.bFill, L2.bFlush]) [] 20 200 ua_ok mixed (t := uWalk_t) uWalk_tree (by
  show ∀ (v0 v1 v2 : Int) (L0 L1 : List Int), _
  intro v0 v1 v2 L0 L1 hp hr hl
  replace hr : (((-9223372036854775808) : Int) ≤ v0 ∧ v0 ≤ ((9223372036854775807) : Int)) ∧ (((-9223372036854775808) : Int) ≤ v1 ∧ v1 ≤ ((9223372036854775807) : Int)) ∧ (((-9223372036854775808) : Int) ≤ v2 ∧ v2 ≤ ((9223372036854775807) : Int)) ∧ True := hr
  replace hl : (∀ x ∈ L0, (((-9223372036854775808) : Int) ≤ x ∧ x ≤ ((9223372036854775807) : Int))) ∧ (∀ x ∈ L1, (((-9223372036854775808) : Int) ≤ x ∧ x ≤ ((9223372036854775807) : Int))) ∧ True := hl
  show uWalk_t.dn ⟨_, []⟩ 3 [v2, v1, v0] 2 [L1, L0]
  rw [uWalk_vc]
  simp only [fnSpec_post, fnSpec_pre, true_and, List.cons.injEq, and_true, List.getD_cons_zero, List.getD_cons_succ, and_imp, forall_eq, b2i_zero, b2i_eq, ne_eq, Bool.not_eq_false, Bool.not_eq_true', Bool.not_eq_false', decide_eq_true_eq, decide_eq_false_iff_not, Int.not_lt, Int.not_le]
  repeat' first | refine And.intro ?_ ?_ | intro _
  all_goals clear hr hl hp
  all_goals grind [walkV, walkOk, walkB, hitW, tabW, b2i, findB])
end Go.Proofs.YtegeplgckfpleaaGreatDoor
