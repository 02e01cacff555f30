/- The statement messuagelaw2.WordAll of the seat: for every input the law returns true; the condition: errors.errorType is as the program lays it. -/
import Derived.Test.YthjfkblnbecjgaaGreatDoorL2Kw
import Derived.Test.YthjfkblnbecjgaaGreatDoorL2Kg
import Derived.Test.YthjfkblnbecjgaaGreatDoorSxM7
set_option linter.unusedVariables false
open Go Go.Sx
namespace Go.Proofs.YthjfkblnbecjgaaGreatDoor
open Go.ChangeShapes Go.WideShapes Go.RowKit
set_option maxRecDepth 100000

noncomputable def WordAll_aa_t : Tree := .call 25 (L2.yes L2.f_messuagelaw2_begun).rel [] [] 0 0 (.call 39 (L2.kind_ 39).rel [.v 0, .v 1, .v 2, .v 3, .v 4] [] 2 0 (.call 40 (L2.kind_ 40).rel [.v 0, .v 1, .v 2, .v 3, .v 4] [] 2 0 (.letI (.cmp .eql (.v 8) (.v 10)) (.ite (.v 12) (.letI (.not (.v 9)) (.letI (.not (.v 11)) (.letI (.cmp .eql (.v 13) (.v 14)) (.ite (.v 15) (.call 43 (L2.args_ 43).rel [.v 8] [] 1 0 (.call 44 (L2.args_ 44).rel [.v 8] [] 1 0 (.letI (.cmp .eql (.v 16) (.v 17)) (.ite (.v 18) (.call 43 (L2.args_ 43).rel [.v 6] [] 1 0 (.call 44 (L2.args_ 44).rel [.v 6] [] 1 0 (.letI (.cmp .eql (.v 19) (.v 20)) (.ite (.v 21) (.call 26 (L2.check_ 26).rel [.v 0, .v 1, .v 2, .v 3, .v 4, .v 5] [] 1 0 (.call 27 (L2.check_ 27).rel [.v 0, .v 1, .v 2, .v 3, .v 4, .v 5] [] 1 0 (.letI (.cmp .eql (.v 22) (.v 23)) (.ite (.v 24) (.done [] []) (.fail 180))))) (.fail 180))))) (.fail 180))))) (.fail 180))))) (.fail 180)))))
theorem WordAll_aa_tree : (((lawSpec 8 [.agg L2.ks5, .one (.i .i64), .one (.i .i64), .one (.i .i64)]).withRng 6 (-9223372036854775808) (0)).withRng 1 (0) (0)).exe Tryz.prog (withS (L2.cfg2 Tryz.prog) [L2.kind_ 39, L2.kind_ 40, L2.check_ 26, L2.check_ 27, L2.args_ 43, L2.args_ 44, L2.within_ 56, L2.within_ 57, L2.lets_ 58, L2.lets_ 59, L2.put_ 52, L2.put_ 77, L2.get_ 53, L2.get_ 78]) [] 20 200 = WordAll_aa_t := by kernel_rfl
theorem WordAll_aa_vc (Q : List Int → List (List Int) → Prop) (v0 v1 v2 v3 v4 v5 v6 v7 : Int) : WordAll_aa_t.dn ⟨Q, []⟩ 8 [v7, v6, v5, v4, v3, v2, v1, v0] 0 [] = ((L2.yes L2.f_messuagelaw2_begun).rel.pre [] [] ∧
((L2.yes L2.f_messuagelaw2_begun).rel.post [] [] [] [] → (L2.kind_ 39).rel.pre [v0, v1, v2, v3, v4] [] ∧
(∀ v8 : Int, ∀ v9 : Int, (L2.kind_ 39).rel.post [v0, v1, v2, v3, v4] [] [v8, v9] [] → (L2.kind_ 40).rel.pre [v0, v1, v2, v3, v4] [] ∧
(∀ v10 : Int, ∀ v11 : Int, (L2.kind_ 40).rel.post [v0, v1, v2, v3, v4] [] [v10, v11] [] → ((v8 = v10) → ∀ v13 : Int, v13 = b2i (v9 == 0) → ∀ v14 : Int, v14 = b2i (v11 == 0) → ((v13 = v14) → (L2.args_ 43).rel.pre [v8] [] ∧
(∀ v16 : Int, (L2.args_ 43).rel.post [v8] [] [v16] [] → (L2.args_ 44).rel.pre [v8] [] ∧
(∀ v17 : Int, (L2.args_ 44).rel.post [v8] [] [v17] [] → ((v16 = v17) → (L2.args_ 43).rel.pre [v6] [] ∧
(∀ v19 : Int, (L2.args_ 43).rel.post [v6] [] [v19] [] → (L2.args_ 44).rel.pre [v6] [] ∧
(∀ v20 : Int, (L2.args_ 44).rel.post [v6] [] [v20] [] → ((v19 = v20) → (L2.check_ 26).rel.pre [v0, v1, v2, v3, v4, v5] [] ∧
(∀ v22 : Int, (L2.check_ 26).rel.post [v0, v1, v2, v3, v4, v5] [] [v22] [] → (L2.check_ 27).rel.pre [v0, v1, v2, v3, v4, v5] [] ∧
(∀ v23 : Int, (L2.check_ 27).rel.post [v0, v1, v2, v3, v4, v5] [] [v23] [] → ((v22 = v23) → Q [] []) ∧
((v22 ≠ v23) → False)))) ∧
((v19 ≠ v20) → False)))) ∧
((v16 ≠ v17) → False)))) ∧
((v13 ≠ v14) → False)) ∧
((v8 ≠ v10) → False))))) := by kernel_rfl
set_option maxHeartbeats 4000000 in
theorem wordAll_part_aa0 : (((lawSpec 8 [.agg L2.ks5, .one (.i .i64), .one (.i .i64), .one (.i .i64)]).withRng 6 (-9223372036854775808) (0)).withRng 1 (0) (0)).Holds Tryz.prog L2.ro := FSpec.holdsV (cfg := withS (L2.cfg2 Tryz.prog) [L2.kind_ 39, L2.kind_ 40, L2.check_ 26, L2.check_ 27, L2.args_ 43, L2.args_ 44, L2.within_ 56, L2.within_ 57, L2.lets_ 58, L2.lets_ 59, L2.put_ 52, L2.put_ 77, L2.get_ 53, L2.get_ 78]) [] 20 200 (withS_ok cfg2_ok ⟨wKind_holds, rKind_holds, wCheck_holds, rCheck_holds, wArgs_holds, rArgs_holds, pWithin_holds, rWithin_holds, pLets_holds, rLets_holds, pPut_holds, rPte_holds, pGet_holds, rGet_holds, trivial⟩) mixed (t := WordAll_aa_t) WordAll_aa_tree (by
  show ∀ (v0 v1 v2 v3 v4 v5 v6 v7 : Int) , _
  intro v0 v1 v2 v3 v4 v5 v6 v7  hp hr hl
  replace hr : (((0) : Int) ≤ v1 ∧ v1 ≤ ((0) : Int)) ∧ (((-9223372036854775808) : Int) ≤ v6 ∧ v6 ≤ ((0) : Int)) ∧ ((0 : Int) ≤ v0 ∧ v0 ≤ (18446744073709551615 : Int)) ∧ ((0 : Int) ≤ v1 ∧ v1 ≤ (18446744073709551615 : Int)) ∧ ((0 : Int) ≤ v2 ∧ v2 ≤ (18446744073709551615 : Int)) ∧ ((0 : Int) ≤ v3 ∧ v3 ≤ (18446744073709551615 : Int)) ∧ ((0 : Int) ≤ v4 ∧ v4 ≤ (18446744073709551615 : Int)) ∧ ((-9223372036854775808 : Int) ≤ v5 ∧ v5 ≤ (9223372036854775807 : Int)) ∧ ((-9223372036854775808 : Int) ≤ v6 ∧ v6 ≤ (9223372036854775807 : Int)) ∧ ((-9223372036854775808 : Int) ≤ v7 ∧ v7 ≤ (9223372036854775807 : Int)) ∧ True := hr
  replace hp : True := hp
  show WordAll_aa_t.dn ⟨_, []⟩ 8 [v7, v6, v5, v4, v3, v2, v1, v0] 0 []
  rw [WordAll_aa_vc]
  show ((L2.yes L2.f_messuagelaw2_begun).rel.pre [] [] ∧ _)
  refine ⟨trivial, fun _ => ?_⟩
  simp only [fnSpec_post, fnSpec_pre, true_and, List.cons.injEq, and_true, List.getD_cons_zero, List.getD_cons_succ, and_imp]
  intro v8 v9 e8 e9 v10 v11 e10 e11
  subst e8 e9 e10 e11
  simp only [b2i, forall_eq]
  repeat' first | refine And.intro ?_ ?_ | intro _
  all_goals first | trivial | omega | grind)

noncomputable def WordAll_ab_t : Tree := .call 25 (L2.yes L2.f_messuagelaw2_begun).rel [] [] 0 0 (.call 39 (L2.kind_ 39).rel [.v 0, .v 1, .v 2, .v 3, .v 4] [] 2 0 (.call 40 (L2.kind_ 40).rel [.v 0, .v 1, .v 2, .v 3, .v 4] [] 2 0 (.letI (.cmp .eql (.v 8) (.v 10)) (.ite (.v 12) (.letI (.not (.v 9)) (.letI (.not (.v 11)) (.letI (.cmp .eql (.v 13) (.v 14)) (.ite (.v 15) (.call 43 (L2.args_ 43).rel [.v 8] [] 1 0 (.call 44 (L2.args_ 44).rel [.v 8] [] 1 0 (.letI (.cmp .eql (.v 16) (.v 17)) (.ite (.v 18) (.call 43 (L2.args_ 43).rel [.v 6] [] 1 0 (.call 44 (L2.args_ 44).rel [.v 6] [] 1 0 (.letI (.cmp .eql (.v 19) (.v 20)) (.ite (.v 21) (.call 26 (L2.check_ 26).rel [.v 0, .v 1, .v 2, .v 3, .v 4, .v 5] [] 1 0 (.call 27 (L2.check_ 27).rel [.v 0, .v 1, .v 2, .v 3, .v 4, .v 5] [] 1 0 (.letI (.cmp .eql (.v 22) (.v 23)) (.ite (.v 24) (.done [] []) (.fail 180))))) (.fail 180))))) (.fail 180))))) (.fail 180))))) (.fail 180)))))
theorem WordAll_ab_tree : (((lawSpec 8 [.agg L2.ks5, .one (.i .i64), .one (.i .i64), .one (.i .i64)]).withRng 6 (-9223372036854775808) (0)).withRng 1 (1) (3)).exe Tryz.prog (withS (L2.cfg2 Tryz.prog) [L2.kind_ 39, L2.kind_ 40, L2.check_ 26, L2.check_ 27, L2.args_ 43, L2.args_ 44, L2.within_ 56, L2.within_ 57, L2.lets_ 58, L2.lets_ 59, L2.put_ 52, L2.put_ 77, L2.get_ 53, L2.get_ 78]) [] 20 200 = WordAll_ab_t := by kernel_rfl
theorem WordAll_ab_vc (Q : List Int → List (List Int) → Prop) (v0 v1 v2 v3 v4 v5 v6 v7 : Int) : WordAll_ab_t.dn ⟨Q, []⟩ 8 [v7, v6, v5, v4, v3, v2, v1, v0] 0 [] = ((L2.yes L2.f_messuagelaw2_begun).rel.pre [] [] ∧
((L2.yes L2.f_messuagelaw2_begun).rel.post [] [] [] [] → (L2.kind_ 39).rel.pre [v0, v1, v2, v3, v4] [] ∧
(∀ v8 : Int, ∀ v9 : Int, (L2.kind_ 39).rel.post [v0, v1, v2, v3, v4] [] [v8, v9] [] → (L2.kind_ 40).rel.pre [v0, v1, v2, v3, v4] [] ∧
(∀ v10 : Int, ∀ v11 : Int, (L2.kind_ 40).rel.post [v0, v1, v2, v3, v4] [] [v10, v11] [] → ((v8 = v10) → ∀ v13 : Int, v13 = b2i (v9 == 0) → ∀ v14 : Int, v14 = b2i (v11 == 0) → ((v13 = v14) → (L2.args_ 43).rel.pre [v8] [] ∧
(∀ v16 : Int, (L2.args_ 43).rel.post [v8] [] [v16] [] → (L2.args_ 44).rel.pre [v8] [] ∧
(∀ v17 : Int, (L2.args_ 44).rel.post [v8] [] [v17] [] → ((v16 = v17) → (L2.args_ 43).rel.pre [v6] [] ∧
(∀ v19 : Int, (L2.args_ 43).rel.post [v6] [] [v19] [] → (L2.args_ 44).rel.pre [v6] [] ∧
(∀ v20 : Int, (L2.args_ 44).rel.post [v6] [] [v20] [] → ((v19 = v20) → (L2.check_ 26).rel.pre [v0, v1, v2, v3, v4, v5] [] ∧
(∀ v22 : Int, (L2.check_ 26).rel.post [v0, v1, v2, v3, v4, v5] [] [v22] [] → (L2.check_ 27).rel.pre [v0, v1, v2, v3, v4, v5] [] ∧
(∀ v23 : Int, (L2.check_ 27).rel.post [v0, v1, v2, v3, v4, v5] [] [v23] [] → ((v22 = v23) → Q [] []) ∧
((v22 ≠ v23) → False)))) ∧
((v19 ≠ v20) → False)))) ∧
((v16 ≠ v17) → False)))) ∧
((v13 ≠ v14) → False)) ∧
((v8 ≠ v10) → False))))) := by kernel_rfl
set_option maxHeartbeats 4000000 in
theorem wordAll_part_ab0 : (((lawSpec 8 [.agg L2.ks5, .one (.i .i64), .one (.i .i64), .one (.i .i64)]).withRng 6 (-9223372036854775808) (0)).withRng 1 (1) (3)).Holds Tryz.prog L2.ro := FSpec.holdsV (cfg := withS (L2.cfg2 Tryz.prog) [L2.kind_ 39, L2.kind_ 40, L2.check_ 26, L2.check_ 27, L2.args_ 43, L2.args_ 44, L2.within_ 56, L2.within_ 57, L2.lets_ 58, L2.lets_ 59, L2.put_ 52, L2.put_ 77, L2.get_ 53, L2.get_ 78]) [] 20 200 (withS_ok cfg2_ok ⟨wKind_holds, rKind_holds, wCheck_holds, rCheck_holds, wArgs_holds, rArgs_holds, pWithin_holds, rWithin_holds, pLets_holds, rLets_holds, pPut_holds, rPte_holds, pGet_holds, rGet_holds, trivial⟩) mixed (t := WordAll_ab_t) WordAll_ab_tree (by
  show ∀ (v0 v1 v2 v3 v4 v5 v6 v7 : Int) , _
  intro v0 v1 v2 v3 v4 v5 v6 v7  hp hr hl
  replace hr : (((1) : Int) ≤ v1 ∧ v1 ≤ ((3) : Int)) ∧ (((-9223372036854775808) : Int) ≤ v6 ∧ v6 ≤ ((0) : Int)) ∧ ((0 : Int) ≤ v0 ∧ v0 ≤ (18446744073709551615 : Int)) ∧ ((0 : Int) ≤ v1 ∧ v1 ≤ (18446744073709551615 : Int)) ∧ ((0 : Int) ≤ v2 ∧ v2 ≤ (18446744073709551615 : Int)) ∧ ((0 : Int) ≤ v3 ∧ v3 ≤ (18446744073709551615 : Int)) ∧ ((0 : Int) ≤ v4 ∧ v4 ≤ (18446744073709551615 : Int)) ∧ ((-9223372036854775808 : Int) ≤ v5 ∧ v5 ≤ (9223372036854775807 : Int)) ∧ ((-9223372036854775808 : Int) ≤ v6 ∧ v6 ≤ (9223372036854775807 : Int)) ∧ ((-9223372036854775808 : Int) ≤ v7 ∧ v7 ≤ (9223372036854775807 : Int)) ∧ True := hr
  replace hp : True := hp
  show WordAll_ab_t.dn ⟨_, []⟩ 8 [v7, v6, v5, v4, v3, v2, v1, v0] 0 []
  rw [WordAll_ab_vc]
  show ((L2.yes L2.f_messuagelaw2_begun).rel.pre [] [] ∧ _)
  refine ⟨trivial, fun _ => ?_⟩
  simp only [fnSpec_post, fnSpec_pre, true_and, List.cons.injEq, and_true, List.getD_cons_zero, List.getD_cons_succ, and_imp]
  intro v8 v9 e8 e9 v10 v11 e10 e11
  subst e8 e9 e10 e11
  simp only [b2i, forall_eq]
  repeat' first | refine And.intro ?_ ?_ | intro _
  all_goals first | trivial | omega | grind)

noncomputable def WordAll_ac_t : Tree := .call 25 (L2.yes L2.f_messuagelaw2_begun).rel [] [] 0 0 (.call 39 (L2.kind_ 39).rel [.v 0, .v 1, .v 2, .v 3, .v 4] [] 2 0 (.call 40 (L2.kind_ 40).rel [.v 0, .v 1, .v 2, .v 3, .v 4] [] 2 0 (.letI (.cmp .eql (.v 8) (.v 10)) (.ite (.v 12) (.letI (.not (.v 9)) (.letI (.not (.v 11)) (.letI (.cmp .eql (.v 13) (.v 14)) (.ite (.v 15) (.call 43 (L2.args_ 43).rel [.v 8] [] 1 0 (.call 44 (L2.args_ 44).rel [.v 8] [] 1 0 (.letI (.cmp .eql (.v 16) (.v 17)) (.ite (.v 18) (.call 43 (L2.args_ 43).rel [.v 6] [] 1 0 (.call 44 (L2.args_ 44).rel [.v 6] [] 1 0 (.letI (.cmp .eql (.v 19) (.v 20)) (.ite (.v 21) (.call 26 (L2.check_ 26).rel [.v 0, .v 1, .v 2, .v 3, .v 4, .v 5] [] 1 0 (.call 27 (L2.check_ 27).rel [.v 0, .v 1, .v 2, .v 3, .v 4, .v 5] [] 1 0 (.letI (.cmp .eql (.v 22) (.v 23)) (.ite (.v 24) (.done [] []) (.fail 180))))) (.fail 180))))) (.fail 180))))) (.fail 180))))) (.fail 180)))))
theorem WordAll_ac_tree : (((lawSpec 8 [.agg L2.ks5, .one (.i .i64), .one (.i .i64), .one (.i .i64)]).withRng 6 (-9223372036854775808) (0)).withRng 1 (4) (18446744073709551615)).exe Tryz.prog (withS (L2.cfg2 Tryz.prog) [L2.kind_ 39, L2.kind_ 40, L2.check_ 26, L2.check_ 27, L2.args_ 43, L2.args_ 44, L2.within_ 56, L2.within_ 57, L2.lets_ 58, L2.lets_ 59, L2.put_ 52, L2.put_ 77, L2.get_ 53, L2.get_ 78]) [] 20 200 = WordAll_ac_t := by kernel_rfl
theorem WordAll_ac_vc (Q : List Int → List (List Int) → Prop) (v0 v1 v2 v3 v4 v5 v6 v7 : Int) : WordAll_ac_t.dn ⟨Q, []⟩ 8 [v7, v6, v5, v4, v3, v2, v1, v0] 0 [] = ((L2.yes L2.f_messuagelaw2_begun).rel.pre [] [] ∧
((L2.yes L2.f_messuagelaw2_begun).rel.post [] [] [] [] → (L2.kind_ 39).rel.pre [v0, v1, v2, v3, v4] [] ∧
(∀ v8 : Int, ∀ v9 : Int, (L2.kind_ 39).rel.post [v0, v1, v2, v3, v4] [] [v8, v9] [] → (L2.kind_ 40).rel.pre [v0, v1, v2, v3, v4] [] ∧
(∀ v10 : Int, ∀ v11 : Int, (L2.kind_ 40).rel.post [v0, v1, v2, v3, v4] [] [v10, v11] [] → ((v8 = v10) → ∀ v13 : Int, v13 = b2i (v9 == 0) → ∀ v14 : Int, v14 = b2i (v11 == 0) → ((v13 = v14) → (L2.args_ 43).rel.pre [v8] [] ∧
(∀ v16 : Int, (L2.args_ 43).rel.post [v8] [] [v16] [] → (L2.args_ 44).rel.pre [v8] [] ∧
(∀ v17 : Int, (L2.args_ 44).rel.post [v8] [] [v17] [] → ((v16 = v17) → (L2.args_ 43).rel.pre [v6] [] ∧
(∀ v19 : Int, (L2.args_ 43).rel.post [v6] [] [v19] [] → (L2.args_ 44).rel.pre [v6] [] ∧
(∀ v20 : Int, (L2.args_ 44).rel.post [v6] [] [v20] [] → ((v19 = v20) → (L2.check_ 26).rel.pre [v0, v1, v2, v3, v4, v5] [] ∧
(∀ v22 : Int, (L2.check_ 26).rel.post [v0, v1, v2, v3, v4, v5] [] [v22] [] → (L2.check_ 27).rel.pre [v0, v1, v2, v3, v4, v5] [] ∧
(∀ v23 : Int, (L2.check_ 27).rel.post [v0, v1, v2, v3, v4, v5] [] [v23] [] → ((v22 = v23) → Q [] []) ∧
((v22 ≠ v23) → False)))) ∧
((v19 ≠ v20) → False)))) ∧
((v16 ≠ v17) → False)))) ∧
((v13 ≠ v14) → False)) ∧
((v8 ≠ v10) → False))))) := by kernel_rfl
set_option maxHeartbeats 4000000 in
theorem wordAll_part_ac0 : (((lawSpec 8 [.agg L2.ks5, .one (.i .i64), .one (.i .i64), .one (.i .i64)]).withRng 6 (-9223372036854775808) (0)).withRng 1 (4) (18446744073709551615)).Holds Tryz.prog L2.ro := FSpec.holdsV (cfg := withS (L2.cfg2 Tryz.prog) [L2.kind_ 39, L2.kind_ 40, L2.check_ 26, L2.check_ 27, L2.args_ 43, L2.args_ 44, L2.within_ 56, L2.within_ 57, L2.lets_ 58, L2.lets_ 59, L2.put_ 52, L2.put_ 77, L2.get_ 53, L2.get_ 78]) [] 20 200 (withS_ok cfg2_ok ⟨wKind_holds, rKind_holds, wCheck_holds, rCheck_holds, wArgs_holds, rArgs_holds, pWithin_holds, rWithin_holds, pLets_holds, rLets_holds, pPut_holds, rPte_holds, pGet_holds, rGet_holds, trivial⟩) mixed (t := WordAll_ac_t) WordAll_ac_tree (by
  show ∀ (v0 v1 v2 v3 v4 v5 v6 v7 : Int) , _
  intro v0 v1 v2 v3 v4 v5 v6 v7  hp hr hl
  replace hr : (((4) : Int) ≤ v1 ∧ v1 ≤ ((18446744073709551615) : Int)) ∧ (((-9223372036854775808) : Int) ≤ v6 ∧ v6 ≤ ((0) : Int)) ∧ ((0 : Int) ≤ v0 ∧ v0 ≤ (18446744073709551615 : Int)) ∧ ((0 : Int) ≤ v1 ∧ v1 ≤ (18446744073709551615 : Int)) ∧ ((0 : Int) ≤ v2 ∧ v2 ≤ (18446744073709551615 : Int)) ∧ ((0 : Int) ≤ v3 ∧ v3 ≤ (18446744073709551615 : Int)) ∧ ((0 : Int) ≤ v4 ∧ v4 ≤ (18446744073709551615 : Int)) ∧ ((-9223372036854775808 : Int) ≤ v5 ∧ v5 ≤ (9223372036854775807 : Int)) ∧ ((-9223372036854775808 : Int) ≤ v6 ∧ v6 ≤ (9223372036854775807 : Int)) ∧ ((-9223372036854775808 : Int) ≤ v7 ∧ v7 ≤ (9223372036854775807 : Int)) ∧ True := hr
  replace hp : True := hp
  show WordAll_ac_t.dn ⟨_, []⟩ 8 [v7, v6, v5, v4, v3, v2, v1, v0] 0 []
  rw [WordAll_ac_vc]
  show ((L2.yes L2.f_messuagelaw2_begun).rel.pre [] [] ∧ _)
  refine ⟨trivial, fun _ => ?_⟩
  simp only [fnSpec_post, fnSpec_pre, true_and, List.cons.injEq, and_true, List.getD_cons_zero, List.getD_cons_succ, and_imp]
  intro v8 v9 e8 e9 v10 v11 e10 e11
  subst e8 e9 e10 e11
  simp only [b2i, forall_eq]
  repeat' first | refine And.intro ?_ ?_ | intro _
  all_goals first | trivial | omega | grind)

noncomputable def WordAll_ba_t : Tree := .call 25 (L2.yes L2.f_messuagelaw2_begun).rel [] [] 0 0 (.call 39 (L2.kind_ 39).rel [.v 0, .v 1, .v 2, .v 3, .v 4] [] 2 0 (.call 40 (L2.kind_ 40).rel [.v 0, .v 1, .v 2, .v 3, .v 4] [] 2 0 (.letI (.cmp .leq (.v 7) (.c 0)) (.ite (.v 12) (.letI (.cmp .eql (.v 8) (.v 10)) (.ite (.v 13) (.letI (.not (.v 9)) (.letI (.not (.v 11)) (.letI (.cmp .eql (.v 14) (.v 15)) (.ite (.v 16) (.call 43 (L2.args_ 43).rel [.v 8] [] 1 0 (.call 44 (L2.args_ 44).rel [.v 8] [] 1 0 (.letI (.cmp .eql (.v 17) (.v 18)) (.ite (.v 19) (.call 43 (L2.args_ 43).rel [.v 6] [] 1 0 (.call 44 (L2.args_ 44).rel [.v 6] [] 1 0 (.letI (.cmp .eql (.v 20) (.v 21)) (.ite (.v 22) (.call 26 (L2.check_ 26).rel [.v 0, .v 1, .v 2, .v 3, .v 4, .v 5] [] 1 0 (.call 27 (L2.check_ 27).rel [.v 0, .v 1, .v 2, .v 3, .v 4, .v 5] [] 1 0 (.letI (.cmp .eql (.v 23) (.v 24)) (.ite (.v 25) (.done [] []) (.fail 180))))) (.fail 180))))) (.fail 180))))) (.fail 180))))) (.fail 180))) (.letI (.cmp .eql (.v 8) (.v 10)) (.ite (.v 13) (.letI (.not (.v 9)) (.letI (.not (.v 11)) (.letI (.cmp .eql (.v 14) (.v 15)) (.ite (.v 16) (.call 43 (L2.args_ 43).rel [.v 8] [] 1 0 (.call 44 (L2.args_ 44).rel [.v 8] [] 1 0 (.letI (.cmp .eql (.v 17) (.v 18)) (.ite (.v 19) (.call 43 (L2.args_ 43).rel [.v 6] [] 1 0 (.call 44 (L2.args_ 44).rel [.v 6] [] 1 0 (.letI (.cmp .eql (.v 20) (.v 21)) (.ite (.v 22) (.call 26 (L2.check_ 26).rel [.v 0, .v 1, .v 2, .v 3, .v 4, .v 5] [] 1 0 (.call 27 (L2.check_ 27).rel [.v 0, .v 1, .v 2, .v 3, .v 4, .v 5] [] 1 0 (.letI (.cmp .eql (.v 23) (.v 24)) (.ite (.v 25) (.done [] []) (.fail 180))))) (.fail 180))))) (.fail 180))))) (.fail 180))))) (.fail 180)))))))
theorem WordAll_ba_tree : (((lawSpec 8 [.agg L2.ks5, .one (.i .i64), .one (.i .i64), .one (.i .i64)]).withRng 6 (1) (1)).withRng 1 (0) (0)).exe Tryz.prog (withS (L2.cfg2 Tryz.prog) [L2.kind_ 39, L2.kind_ 40, L2.check_ 26, L2.check_ 27, L2.args_ 43, L2.args_ 44, L2.within_ 56, L2.within_ 57, L2.lets_ 58, L2.lets_ 59, L2.put_ 52, L2.put_ 77, L2.get_ 53, L2.get_ 78]) [] 20 200 = WordAll_ba_t := by kernel_rfl
theorem WordAll_ba_vc (Q : List Int → List (List Int) → Prop) (v0 v1 v2 v3 v4 v5 v6 v7 : Int) : WordAll_ba_t.dn ⟨Q, []⟩ 8 [v7, v6, v5, v4, v3, v2, v1, v0] 0 [] = ((L2.yes L2.f_messuagelaw2_begun).rel.pre [] [] ∧
((L2.yes L2.f_messuagelaw2_begun).rel.post [] [] [] [] → (L2.kind_ 39).rel.pre [v0, v1, v2, v3, v4] [] ∧
(∀ v8 : Int, ∀ v9 : Int, (L2.kind_ 39).rel.post [v0, v1, v2, v3, v4] [] [v8, v9] [] → (L2.kind_ 40).rel.pre [v0, v1, v2, v3, v4] [] ∧
(∀ v10 : Int, ∀ v11 : Int, (L2.kind_ 40).rel.post [v0, v1, v2, v3, v4] [] [v10, v11] [] → ((v7 ≤ (0 : Int)) → ((v8 = v10) → ∀ v14 : Int, v14 = b2i (v9 == 0) → ∀ v15 : Int, v15 = b2i (v11 == 0) → ((v14 = v15) → (L2.args_ 43).rel.pre [v8] [] ∧
(∀ v17 : Int, (L2.args_ 43).rel.post [v8] [] [v17] [] → (L2.args_ 44).rel.pre [v8] [] ∧
(∀ v18 : Int, (L2.args_ 44).rel.post [v8] [] [v18] [] → ((v17 = v18) → (L2.args_ 43).rel.pre [v6] [] ∧
(∀ v20 : Int, (L2.args_ 43).rel.post [v6] [] [v20] [] → (L2.args_ 44).rel.pre [v6] [] ∧
(∀ v21 : Int, (L2.args_ 44).rel.post [v6] [] [v21] [] → ((v20 = v21) → (L2.check_ 26).rel.pre [v0, v1, v2, v3, v4, v5] [] ∧
(∀ v23 : Int, (L2.check_ 26).rel.post [v0, v1, v2, v3, v4, v5] [] [v23] [] → (L2.check_ 27).rel.pre [v0, v1, v2, v3, v4, v5] [] ∧
(∀ v24 : Int, (L2.check_ 27).rel.post [v0, v1, v2, v3, v4, v5] [] [v24] [] → ((v23 = v24) → Q [] []) ∧
((v23 ≠ v24) → False)))) ∧
((v20 ≠ v21) → False)))) ∧
((v17 ≠ v18) → False)))) ∧
((v14 ≠ v15) → False)) ∧
((v8 ≠ v10) → False)) ∧
(((0 : Int) < v7) → ((v8 = v10) → ∀ v14 : Int, v14 = b2i (v9 == 0) → ∀ v15 : Int, v15 = b2i (v11 == 0) → ((v14 = v15) → (L2.args_ 43).rel.pre [v8] [] ∧
(∀ v17 : Int, (L2.args_ 43).rel.post [v8] [] [v17] [] → (L2.args_ 44).rel.pre [v8] [] ∧
(∀ v18 : Int, (L2.args_ 44).rel.post [v8] [] [v18] [] → ((v17 = v18) → (L2.args_ 43).rel.pre [v6] [] ∧
(∀ v20 : Int, (L2.args_ 43).rel.post [v6] [] [v20] [] → (L2.args_ 44).rel.pre [v6] [] ∧
(∀ v21 : Int, (L2.args_ 44).rel.post [v6] [] [v21] [] → ((v20 = v21) → (L2.check_ 26).rel.pre [v0, v1, v2, v3, v4, v5] [] ∧
(∀ v23 : Int, (L2.check_ 26).rel.post [v0, v1, v2, v3, v4, v5] [] [v23] [] → (L2.check_ 27).rel.pre [v0, v1, v2, v3, v4, v5] [] ∧
(∀ v24 : Int, (L2.check_ 27).rel.post [v0, v1, v2, v3, v4, v5] [] [v24] [] → ((v23 = v24) → Q [] []) ∧
((v23 ≠ v24) → False)))) ∧
((v20 ≠ v21) → False)))) ∧
((v17 ≠ v18) → False)))) ∧
((v14 ≠ v15) → False)) ∧
((v8 ≠ v10) → False)))))) := by kernel_rfl
set_option maxHeartbeats 4000000 in
theorem wordAll_part_ba0 : (((lawSpec 8 [.agg L2.ks5, .one (.i .i64), .one (.i .i64), .one (.i .i64)]).withRng 6 (1) (1)).withRng 1 (0) (0)).Holds Tryz.prog L2.ro := FSpec.holdsV (cfg := withS (L2.cfg2 Tryz.prog) [L2.kind_ 39, L2.kind_ 40, L2.check_ 26, L2.check_ 27, L2.args_ 43, L2.args_ 44, L2.within_ 56, L2.within_ 57, L2.lets_ 58, L2.lets_ 59, L2.put_ 52, L2.put_ 77, L2.get_ 53, L2.get_ 78]) [] 20 200 (withS_ok cfg2_ok ⟨wKind_holds, rKind_holds, wCheck_holds, rCheck_holds, wArgs_holds, rArgs_holds, pWithin_holds, rWithin_holds, pLets_holds, rLets_holds, pPut_holds, rPte_holds, pGet_holds, rGet_holds, trivial⟩) mixed (t := WordAll_ba_t) WordAll_ba_tree (by
  show ∀ (v0 v1 v2 v3 v4 v5 v6 v7 : Int) , _
  intro v0 v1 v2 v3 v4 v5 v6 v7  hp hr hl
  replace hr : (((0) : Int) ≤ v1 ∧ v1 ≤ ((0) : Int)) ∧ (((1) : Int) ≤ v6 ∧ v6 ≤ ((1) : Int)) ∧ ((0 : Int) ≤ v0 ∧ v0 ≤ (18446744073709551615 : Int)) ∧ ((0 : Int) ≤ v1 ∧ v1 ≤ (18446744073709551615 : Int)) ∧ ((0 : Int) ≤ v2 ∧ v2 ≤ (18446744073709551615 : Int)) ∧ ((0 : Int) ≤ v3 ∧ v3 ≤ (18446744073709551615 : Int)) ∧ ((0 : Int) ≤ v4 ∧ v4 ≤ (18446744073709551615 : Int)) ∧ ((-9223372036854775808 : Int) ≤ v5 ∧ v5 ≤ (9223372036854775807 : Int)) ∧ ((-9223372036854775808 : Int) ≤ v6 ∧ v6 ≤ (9223372036854775807 : Int)) ∧ ((-9223372036854775808 : Int) ≤ v7 ∧ v7 ≤ (9223372036854775807 : Int)) ∧ True := hr
  replace hp : True := hp
  show WordAll_ba_t.dn ⟨_, []⟩ 8 [v7, v6, v5, v4, v3, v2, v1, v0] 0 []
  rw [WordAll_ba_vc]
  show ((L2.yes L2.f_messuagelaw2_begun).rel.pre [] [] ∧ _)
  refine ⟨trivial, fun _ => ?_⟩
  simp only [fnSpec_post, fnSpec_pre, true_and, List.cons.injEq, and_true, List.getD_cons_zero, List.getD_cons_succ, and_imp]
  intro v8 v9 e8 e9 v10 v11 e10 e11
  subst e8 e9 e10 e11
  simp only [b2i, forall_eq]
  repeat' first | refine And.intro ?_ ?_ | intro _
  all_goals first | trivial | omega | grind)

noncomputable def WordAll_bb_t : Tree := .call 25 (L2.yes L2.f_messuagelaw2_begun).rel [] [] 0 0 (.call 39 (L2.kind_ 39).rel [.v 0, .v 1, .v 2, .v 3, .v 4] [] 2 0 (.call 40 (L2.kind_ 40).rel [.v 0, .v 1, .v 2, .v 3, .v 4] [] 2 0 (.letI (.cmp .leq (.v 7) (.c 0)) (.ite (.v 12) (.letI (.cmp .eql (.v 8) (.v 10)) (.ite (.v 13) (.letI (.not (.v 9)) (.letI (.not (.v 11)) (.letI (.cmp .eql (.v 14) (.v 15)) (.ite (.v 16) (.call 43 (L2.args_ 43).rel [.v 8] [] 1 0 (.call 44 (L2.args_ 44).rel [.v 8] [] 1 0 (.letI (.cmp .eql (.v 17) (.v 18)) (.ite (.v 19) (.call 43 (L2.args_ 43).rel [.v 6] [] 1 0 (.call 44 (L2.args_ 44).rel [.v 6] [] 1 0 (.letI (.cmp .eql (.v 20) (.v 21)) (.ite (.v 22) (.call 26 (L2.check_ 26).rel [.v 0, .v 1, .v 2, .v 3, .v 4, .v 5] [] 1 0 (.call 27 (L2.check_ 27).rel [.v 0, .v 1, .v 2, .v 3, .v 4, .v 5] [] 1 0 (.letI (.cmp .eql (.v 23) (.v 24)) (.ite (.v 25) (.done [] []) (.fail 180))))) (.fail 180))))) (.fail 180))))) (.fail 180))))) (.fail 180))) (.letI (.cmp .leq (.v 7) (.v 1)) (.ite (.v 13) (.letI (.cmp .eql (.v 8) (.v 10)) (.ite (.v 14) (.letI (.not (.v 9)) (.letI (.not (.v 11)) (.letI (.cmp .eql (.v 15) (.v 16)) (.ite (.v 17) (.call 43 (L2.args_ 43).rel [.v 8] [] 1 0 (.call 44 (L2.args_ 44).rel [.v 8] [] 1 0 (.letI (.cmp .eql (.v 18) (.v 19)) (.ite (.v 20) (.call 43 (L2.args_ 43).rel [.v 6] [] 1 0 (.call 44 (L2.args_ 44).rel [.v 6] [] 1 0 (.letI (.cmp .eql (.v 21) (.v 22)) (.ite (.v 23) (.call 26 (L2.check_ 26).rel [.v 0, .v 1, .v 2, .v 3, .v 4, .v 5] [] 1 0 (.call 27 (L2.check_ 27).rel [.v 0, .v 1, .v 2, .v 3, .v 4, .v 5] [] 1 0 (.letI (.cmp .eql (.v 24) (.v 25)) (.ite (.v 26) (.done [] []) (.fail 180))))) (.fail 180))))) (.fail 180))))) (.fail 180))))) (.fail 180))) (.letI (.cmp .eql (.v 8) (.v 10)) (.ite (.v 14) (.letI (.not (.v 9)) (.letI (.not (.v 11)) (.letI (.cmp .eql (.v 15) (.v 16)) (.ite (.v 17) (.call 43 (L2.args_ 43).rel [.v 8] [] 1 0 (.call 44 (L2.args_ 44).rel [.v 8] [] 1 0 (.letI (.cmp .eql (.v 18) (.v 19)) (.ite (.v 20) (.call 43 (L2.args_ 43).rel [.v 6] [] 1 0 (.call 44 (L2.args_ 44).rel [.v 6] [] 1 0 (.letI (.cmp .eql (.v 21) (.v 22)) (.ite (.v 23) (.call 26 (L2.check_ 26).rel [.v 0, .v 1, .v 2, .v 3, .v 4, .v 5] [] 1 0 (.call 27 (L2.check_ 27).rel [.v 0, .v 1, .v 2, .v 3, .v 4, .v 5] [] 1 0 (.letI (.cmp .eql (.v 24) (.v 25)) (.ite (.v 26) (.done [] []) (.fail 180))))) (.fail 180))))) (.fail 180))))) (.fail 180))))) (.fail 180)))))))))
theorem WordAll_bb_tree : (((lawSpec 8 [.agg L2.ks5, .one (.i .i64), .one (.i .i64), .one (.i .i64)]).withRng 6 (1) (1)).withRng 1 (1) (3)).exe Tryz.prog (withS (L2.cfg2 Tryz.prog) [L2.kind_ 39, L2.kind_ 40, L2.check_ 26, L2.check_ 27, L2.args_ 43, L2.args_ 44, L2.within_ 56, L2.within_ 57, L2.lets_ 58, L2.lets_ 59, L2.put_ 52, L2.put_ 77, L2.get_ 53, L2.get_ 78]) [] 20 200 = WordAll_bb_t := by kernel_rfl
theorem WordAll_bb_vc (Q : List Int → List (List Int) → Prop) (v0 v1 v2 v3 v4 v5 v6 v7 : Int) : WordAll_bb_t.dn ⟨Q, []⟩ 8 [v7, v6, v5, v4, v3, v2, v1, v0] 0 [] = ((L2.yes L2.f_messuagelaw2_begun).rel.pre [] [] ∧
((L2.yes L2.f_messuagelaw2_begun).rel.post [] [] [] [] → (L2.kind_ 39).rel.pre [v0, v1, v2, v3, v4] [] ∧
(∀ v8 : Int, ∀ v9 : Int, (L2.kind_ 39).rel.post [v0, v1, v2, v3, v4] [] [v8, v9] [] → (L2.kind_ 40).rel.pre [v0, v1, v2, v3, v4] [] ∧
(∀ v10 : Int, ∀ v11 : Int, (L2.kind_ 40).rel.post [v0, v1, v2, v3, v4] [] [v10, v11] [] → ((v7 ≤ (0 : Int)) → ((v8 = v10) → ∀ v14 : Int, v14 = b2i (v9 == 0) → ∀ v15 : Int, v15 = b2i (v11 == 0) → ((v14 = v15) → (L2.args_ 43).rel.pre [v8] [] ∧
(∀ v17 : Int, (L2.args_ 43).rel.post [v8] [] [v17] [] → (L2.args_ 44).rel.pre [v8] [] ∧
(∀ v18 : Int, (L2.args_ 44).rel.post [v8] [] [v18] [] → ((v17 = v18) → (L2.args_ 43).rel.pre [v6] [] ∧
(∀ v20 : Int, (L2.args_ 43).rel.post [v6] [] [v20] [] → (L2.args_ 44).rel.pre [v6] [] ∧
(∀ v21 : Int, (L2.args_ 44).rel.post [v6] [] [v21] [] → ((v20 = v21) → (L2.check_ 26).rel.pre [v0, v1, v2, v3, v4, v5] [] ∧
(∀ v23 : Int, (L2.check_ 26).rel.post [v0, v1, v2, v3, v4, v5] [] [v23] [] → (L2.check_ 27).rel.pre [v0, v1, v2, v3, v4, v5] [] ∧
(∀ v24 : Int, (L2.check_ 27).rel.post [v0, v1, v2, v3, v4, v5] [] [v24] [] → ((v23 = v24) → Q [] []) ∧
((v23 ≠ v24) → False)))) ∧
((v20 ≠ v21) → False)))) ∧
((v17 ≠ v18) → False)))) ∧
((v14 ≠ v15) → False)) ∧
((v8 ≠ v10) → False)) ∧
(((0 : Int) < v7) → ((v7 ≤ v1) → ((v8 = v10) → ∀ v15 : Int, v15 = b2i (v9 == 0) → ∀ v16 : Int, v16 = b2i (v11 == 0) → ((v15 = v16) → (L2.args_ 43).rel.pre [v8] [] ∧
(∀ v18 : Int, (L2.args_ 43).rel.post [v8] [] [v18] [] → (L2.args_ 44).rel.pre [v8] [] ∧
(∀ v19 : Int, (L2.args_ 44).rel.post [v8] [] [v19] [] → ((v18 = v19) → (L2.args_ 43).rel.pre [v6] [] ∧
(∀ v21 : Int, (L2.args_ 43).rel.post [v6] [] [v21] [] → (L2.args_ 44).rel.pre [v6] [] ∧
(∀ v22 : Int, (L2.args_ 44).rel.post [v6] [] [v22] [] → ((v21 = v22) → (L2.check_ 26).rel.pre [v0, v1, v2, v3, v4, v5] [] ∧
(∀ v24 : Int, (L2.check_ 26).rel.post [v0, v1, v2, v3, v4, v5] [] [v24] [] → (L2.check_ 27).rel.pre [v0, v1, v2, v3, v4, v5] [] ∧
(∀ v25 : Int, (L2.check_ 27).rel.post [v0, v1, v2, v3, v4, v5] [] [v25] [] → ((v24 = v25) → Q [] []) ∧
((v24 ≠ v25) → False)))) ∧
((v21 ≠ v22) → False)))) ∧
((v18 ≠ v19) → False)))) ∧
((v15 ≠ v16) → False)) ∧
((v8 ≠ v10) → False)) ∧
((v1 < v7) → ((v8 = v10) → ∀ v15 : Int, v15 = b2i (v9 == 0) → ∀ v16 : Int, v16 = b2i (v11 == 0) → ((v15 = v16) → (L2.args_ 43).rel.pre [v8] [] ∧
(∀ v18 : Int, (L2.args_ 43).rel.post [v8] [] [v18] [] → (L2.args_ 44).rel.pre [v8] [] ∧
(∀ v19 : Int, (L2.args_ 44).rel.post [v8] [] [v19] [] → ((v18 = v19) → (L2.args_ 43).rel.pre [v6] [] ∧
(∀ v21 : Int, (L2.args_ 43).rel.post [v6] [] [v21] [] → (L2.args_ 44).rel.pre [v6] [] ∧
(∀ v22 : Int, (L2.args_ 44).rel.post [v6] [] [v22] [] → ((v21 = v22) → (L2.check_ 26).rel.pre [v0, v1, v2, v3, v4, v5] [] ∧
(∀ v24 : Int, (L2.check_ 26).rel.post [v0, v1, v2, v3, v4, v5] [] [v24] [] → (L2.check_ 27).rel.pre [v0, v1, v2, v3, v4, v5] [] ∧
(∀ v25 : Int, (L2.check_ 27).rel.post [v0, v1, v2, v3, v4, v5] [] [v25] [] → ((v24 = v25) → Q [] []) ∧
((v24 ≠ v25) → False)))) ∧
((v21 ≠ v22) → False)))) ∧
((v18 ≠ v19) → False)))) ∧
((v15 ≠ v16) → False)) ∧
((v8 ≠ v10) → False))))))) := by kernel_rfl
set_option maxHeartbeats 4000000 in
theorem wordAll_part_bb0 : (((lawSpec 8 [.agg L2.ks5, .one (.i .i64), .one (.i .i64), .one (.i .i64)]).withRng 6 (1) (1)).withRng 1 (1) (3)).Holds Tryz.prog L2.ro := FSpec.holdsV (cfg := withS (L2.cfg2 Tryz.prog) [L2.kind_ 39, L2.kind_ 40, L2.check_ 26, L2.check_ 27, L2.args_ 43, L2.args_ 44, L2.within_ 56, L2.within_ 57, L2.lets_ 58, L2.lets_ 59, L2.put_ 52, L2.put_ 77, L2.get_ 53, L2.get_ 78]) [] 20 200 (withS_ok cfg2_ok ⟨wKind_holds, rKind_holds, wCheck_holds, rCheck_holds, wArgs_holds, rArgs_holds, pWithin_holds, rWithin_holds, pLets_holds, rLets_holds, pPut_holds, rPte_holds, pGet_holds, rGet_holds, trivial⟩) mixed (t := WordAll_bb_t) WordAll_bb_tree (by
  show ∀ (v0 v1 v2 v3 v4 v5 v6 v7 : Int) , _
  intro v0 v1 v2 v3 v4 v5 v6 v7  hp hr hl
  replace hr : (((1) : Int) ≤ v1 ∧ v1 ≤ ((3) : Int)) ∧ (((1) : Int) ≤ v6 ∧ v6 ≤ ((1) : Int)) ∧ ((0 : Int) ≤ v0 ∧ v0 ≤ (18446744073709551615 : Int)) ∧ ((0 : Int) ≤ v1 ∧ v1 ≤ (18446744073709551615 : Int)) ∧ ((0 : Int) ≤ v2 ∧ v2 ≤ (18446744073709551615 : Int)) ∧ ((0 : Int) ≤ v3 ∧ v3 ≤ (18446744073709551615 : Int)) ∧ ((0 : Int) ≤ v4 ∧ v4 ≤ (18446744073709551615 : Int)) ∧ ((-9223372036854775808 : Int) ≤ v5 ∧ v5 ≤ (9223372036854775807 : Int)) ∧ ((-9223372036854775808 : Int) ≤ v6 ∧ v6 ≤ (9223372036854775807 : Int)) ∧ ((-9223372036854775808 : Int) ≤ v7 ∧ v7 ≤ (9223372036854775807 : Int)) ∧ True := hr
  replace hp : True := hp
  show WordAll_bb_t.dn ⟨_, []⟩ 8 [v7, v6, v5, v4, v3, v2, v1, v0] 0 []
  rw [WordAll_bb_vc]
  show ((L2.yes L2.f_messuagelaw2_begun).rel.pre [] [] ∧ _)
  refine ⟨trivial, fun _ => ?_⟩
  simp only [fnSpec_post, fnSpec_pre, true_and, List.cons.injEq, and_true, List.getD_cons_zero, List.getD_cons_succ, and_imp]
  intro v8 v9 e8 e9 v10 v11 e10 e11
  subst e8 e9 e10 e11
  simp only [b2i, forall_eq]
  repeat' first | refine And.intro ?_ ?_ | intro _
  all_goals first | trivial | omega | grind)

noncomputable def WordAll_bc_t : Tree := .call 25 (L2.yes L2.f_messuagelaw2_begun).rel [] [] 0 0 (.call 39 (L2.kind_ 39).rel [.v 0, .v 1, .v 2, .v 3, .v 4] [] 2 0 (.call 40 (L2.kind_ 40).rel [.v 0, .v 1, .v 2, .v 3, .v 4] [] 2 0 (.letI (.cmp .leq (.v 7) (.c 0)) (.ite (.v 12) (.letI (.cmp .eql (.v 8) (.v 10)) (.ite (.v 13) (.letI (.not (.v 9)) (.letI (.not (.v 11)) (.letI (.cmp .eql (.v 14) (.v 15)) (.ite (.v 16) (.call 43 (L2.args_ 43).rel [.v 8] [] 1 0 (.call 44 (L2.args_ 44).rel [.v 8] [] 1 0 (.letI (.cmp .eql (.v 17) (.v 18)) (.ite (.v 19) (.call 43 (L2.args_ 43).rel [.v 6] [] 1 0 (.call 44 (L2.args_ 44).rel [.v 6] [] 1 0 (.letI (.cmp .eql (.v 20) (.v 21)) (.ite (.v 22) (.call 26 (L2.check_ 26).rel [.v 0, .v 1, .v 2, .v 3, .v 4, .v 5] [] 1 0 (.call 27 (L2.check_ 27).rel [.v 0, .v 1, .v 2, .v 3, .v 4, .v 5] [] 1 0 (.letI (.cmp .eql (.v 23) (.v 24)) (.ite (.v 25) (.done [] []) (.fail 180))))) (.fail 180))))) (.fail 180))))) (.fail 180))))) (.fail 180))) (.letI (.cmp .leq (.v 7) (.v 1)) (.ite (.v 13) (.letI (.cmp .eql (.v 8) (.v 10)) (.ite (.v 14) (.letI (.not (.v 9)) (.letI (.not (.v 11)) (.letI (.cmp .eql (.v 15) (.v 16)) (.ite (.v 17) (.call 43 (L2.args_ 43).rel [.v 8] [] 1 0 (.call 44 (L2.args_ 44).rel [.v 8] [] 1 0 (.letI (.cmp .eql (.v 18) (.v 19)) (.ite (.v 20) (.call 43 (L2.args_ 43).rel [.v 6] [] 1 0 (.call 44 (L2.args_ 44).rel [.v 6] [] 1 0 (.letI (.cmp .eql (.v 21) (.v 22)) (.ite (.v 23) (.call 26 (L2.check_ 26).rel [.v 0, .v 1, .v 2, .v 3, .v 4, .v 5] [] 1 0 (.call 27 (L2.check_ 27).rel [.v 0, .v 1, .v 2, .v 3, .v 4, .v 5] [] 1 0 (.letI (.cmp .eql (.v 24) (.v 25)) (.ite (.v 26) (.done [] []) (.fail 180))))) (.fail 180))))) (.fail 180))))) (.fail 180))))) (.fail 180))) (.letI (.cmp .eql (.v 8) (.v 10)) (.ite (.v 14) (.letI (.not (.v 9)) (.letI (.not (.v 11)) (.letI (.cmp .eql (.v 15) (.v 16)) (.ite (.v 17) (.call 43 (L2.args_ 43).rel [.v 8] [] 1 0 (.call 44 (L2.args_ 44).rel [.v 8] [] 1 0 (.letI (.cmp .eql (.v 18) (.v 19)) (.ite (.v 20) (.call 43 (L2.args_ 43).rel [.v 6] [] 1 0 (.call 44 (L2.args_ 44).rel [.v 6] [] 1 0 (.letI (.cmp .eql (.v 21) (.v 22)) (.ite (.v 23) (.call 26 (L2.check_ 26).rel [.v 0, .v 1, .v 2, .v 3, .v 4, .v 5] [] 1 0 (.call 27 (L2.check_ 27).rel [.v 0, .v 1, .v 2, .v 3, .v 4, .v 5] [] 1 0 (.letI (.cmp .eql (.v 24) (.v 25)) (.ite (.v 26) (.done [] []) (.fail 180))))) (.fail 180))))) (.fail 180))))) (.fail 180))))) (.fail 180)))))))))
theorem WordAll_bc_tree : (((lawSpec 8 [.agg L2.ks5, .one (.i .i64), .one (.i .i64), .one (.i .i64)]).withRng 6 (1) (1)).withRng 1 (4) (18446744073709551615)).exe Tryz.prog (withS (L2.cfg2 Tryz.prog) [L2.kind_ 39, L2.kind_ 40, L2.check_ 26, L2.check_ 27, L2.args_ 43, L2.args_ 44, L2.within_ 56, L2.within_ 57, L2.lets_ 58, L2.lets_ 59, L2.put_ 52, L2.put_ 77, L2.get_ 53, L2.get_ 78]) [] 20 200 = WordAll_bc_t := by kernel_rfl
theorem WordAll_bc_vc (Q : List Int → List (List Int) → Prop) (v0 v1 v2 v3 v4 v5 v6 v7 : Int) : WordAll_bc_t.dn ⟨Q, []⟩ 8 [v7, v6, v5, v4, v3, v2, v1, v0] 0 [] = ((L2.yes L2.f_messuagelaw2_begun).rel.pre [] [] ∧
((L2.yes L2.f_messuagelaw2_begun).rel.post [] [] [] [] → (L2.kind_ 39).rel.pre [v0, v1, v2, v3, v4] [] ∧
(∀ v8 : Int, ∀ v9 : Int, (L2.kind_ 39).rel.post [v0, v1, v2, v3, v4] [] [v8, v9] [] → (L2.kind_ 40).rel.pre [v0, v1, v2, v3, v4] [] ∧
(∀ v10 : Int, ∀ v11 : Int, (L2.kind_ 40).rel.post [v0, v1, v2, v3, v4] [] [v10, v11] [] → ((v7 ≤ (0 : Int)) → ((v8 = v10) → ∀ v14 : Int, v14 = b2i (v9 == 0) → ∀ v15 : Int, v15 = b2i (v11 == 0) → ((v14 = v15) → (L2.args_ 43).rel.pre [v8] [] ∧
(∀ v17 : Int, (L2.args_ 43).rel.post [v8] [] [v17] [] → (L2.args_ 44).rel.pre [v8] [] ∧
(∀ v18 : Int, (L2.args_ 44).rel.post [v8] [] [v18] [] → ((v17 = v18) → (L2.args_ 43).rel.pre [v6] [] ∧
(∀ v20 : Int, (L2.args_ 43).rel.post [v6] [] [v20] [] → (L2.args_ 44).rel.pre [v6] [] ∧
(∀ v21 : Int, (L2.args_ 44).rel.post [v6] [] [v21] [] → ((v20 = v21) → (L2.check_ 26).rel.pre [v0, v1, v2, v3, v4, v5] [] ∧
(∀ v23 : Int, (L2.check_ 26).rel.post [v0, v1, v2, v3, v4, v5] [] [v23] [] → (L2.check_ 27).rel.pre [v0, v1, v2, v3, v4, v5] [] ∧
(∀ v24 : Int, (L2.check_ 27).rel.post [v0, v1, v2, v3, v4, v5] [] [v24] [] → ((v23 = v24) → Q [] []) ∧
((v23 ≠ v24) → False)))) ∧
((v20 ≠ v21) → False)))) ∧
((v17 ≠ v18) → False)))) ∧
((v14 ≠ v15) → False)) ∧
((v8 ≠ v10) → False)) ∧
(((0 : Int) < v7) → ((v7 ≤ v1) → ((v8 = v10) → ∀ v15 : Int, v15 = b2i (v9 == 0) → ∀ v16 : Int, v16 = b2i (v11 == 0) → ((v15 = v16) → (L2.args_ 43).rel.pre [v8] [] ∧
(∀ v18 : Int, (L2.args_ 43).rel.post [v8] [] [v18] [] → (L2.args_ 44).rel.pre [v8] [] ∧
(∀ v19 : Int, (L2.args_ 44).rel.post [v8] [] [v19] [] → ((v18 = v19) → (L2.args_ 43).rel.pre [v6] [] ∧
(∀ v21 : Int, (L2.args_ 43).rel.post [v6] [] [v21] [] → (L2.args_ 44).rel.pre [v6] [] ∧
(∀ v22 : Int, (L2.args_ 44).rel.post [v6] [] [v22] [] → ((v21 = v22) → (L2.check_ 26).rel.pre [v0, v1, v2, v3, v4, v5] [] ∧
(∀ v24 : Int, (L2.check_ 26).rel.post [v0, v1, v2, v3, v4, v5] [] [v24] [] → (L2.check_ 27).rel.pre [v0, v1, v2, v3, v4, v5] [] ∧
(∀ v25 : Int, (L2.check_ 27).rel.post [v0, v1, v2, v3, v4, v5] [] [v25] [] → ((v24 = v25) → Q [] []) ∧
((v24 ≠ v25) → False)))) ∧
((v21 ≠ v22) → False)))) ∧
((v18 ≠ v19) → False)))) ∧
((v15 ≠ v16) → False)) ∧
((v8 ≠ v10) → False)) ∧
((v1 < v7) → ((v8 = v10) → ∀ v15 : Int, v15 = b2i (v9 == 0) → ∀ v16 : Int, v16 = b2i (v11 == 0) → ((v15 = v16) → (L2.args_ 43).rel.pre [v8] [] ∧
(∀ v18 : Int, (L2.args_ 43).rel.post [v8] [] [v18] [] → (L2.args_ 44).rel.pre [v8] [] ∧
(∀ v19 : Int, (L2.args_ 44).rel.post [v8] [] [v19] [] → ((v18 = v19) → (L2.args_ 43).rel.pre [v6] [] ∧
(∀ v21 : Int, (L2.args_ 43).rel.post [v6] [] [v21] [] → (L2.args_ 44).rel.pre [v6] [] ∧
(∀ v22 : Int, (L2.args_ 44).rel.post [v6] [] [v22] [] → ((v21 = v22) → (L2.check_ 26).rel.pre [v0, v1, v2, v3, v4, v5] [] ∧
(∀ v24 : Int, (L2.check_ 26).rel.post [v0, v1, v2, v3, v4, v5] [] [v24] [] → (L2.check_ 27).rel.pre [v0, v1, v2, v3, v4, v5] [] ∧
(∀ v25 : Int, (L2.check_ 27).rel.post [v0, v1, v2, v3, v4, v5] [] [v25] [] → ((v24 = v25) → Q [] []) ∧
((v24 ≠ v25) → False)))) ∧
((v21 ≠ v22) → False)))) ∧
((v18 ≠ v19) → False)))) ∧
((v15 ≠ v16) → False)) ∧
((v8 ≠ v10) → False))))))) := by kernel_rfl
set_option maxHeartbeats 4000000 in
theorem wordAll_part_bc0 : (((lawSpec 8 [.agg L2.ks5, .one (.i .i64), .one (.i .i64), .one (.i .i64)]).withRng 6 (1) (1)).withRng 1 (4) (18446744073709551615)).Holds Tryz.prog L2.ro := FSpec.holdsV (cfg := withS (L2.cfg2 Tryz.prog) [L2.kind_ 39, L2.kind_ 40, L2.check_ 26, L2.check_ 27, L2.args_ 43, L2.args_ 44, L2.within_ 56, L2.within_ 57, L2.lets_ 58, L2.lets_ 59, L2.put_ 52, L2.put_ 77, L2.get_ 53, L2.get_ 78]) [] 20 200 (withS_ok cfg2_ok ⟨wKind_holds, rKind_holds, wCheck_holds, rCheck_holds, wArgs_holds, rArgs_holds, pWithin_holds, rWithin_holds, pLets_holds, rLets_holds, pPut_holds, rPte_holds, pGet_holds, rGet_holds, trivial⟩) mixed (t := WordAll_bc_t) WordAll_bc_tree (by
  show ∀ (v0 v1 v2 v3 v4 v5 v6 v7 : Int) , _
  intro v0 v1 v2 v3 v4 v5 v6 v7  hp hr hl
  replace hr : (((4) : Int) ≤ v1 ∧ v1 ≤ ((18446744073709551615) : Int)) ∧ (((1) : Int) ≤ v6 ∧ v6 ≤ ((1) : Int)) ∧ ((0 : Int) ≤ v0 ∧ v0 ≤ (18446744073709551615 : Int)) ∧ ((0 : Int) ≤ v1 ∧ v1 ≤ (18446744073709551615 : Int)) ∧ ((0 : Int) ≤ v2 ∧ v2 ≤ (18446744073709551615 : Int)) ∧ ((0 : Int) ≤ v3 ∧ v3 ≤ (18446744073709551615 : Int)) ∧ ((0 : Int) ≤ v4 ∧ v4 ≤ (18446744073709551615 : Int)) ∧ ((-9223372036854775808 : Int) ≤ v5 ∧ v5 ≤ (9223372036854775807 : Int)) ∧ ((-9223372036854775808 : Int) ≤ v6 ∧ v6 ≤ (9223372036854775807 : Int)) ∧ ((-9223372036854775808 : Int) ≤ v7 ∧ v7 ≤ (9223372036854775807 : Int)) ∧ True := hr
  replace hp : True := hp
  show WordAll_bc_t.dn ⟨_, []⟩ 8 [v7, v6, v5, v4, v3, v2, v1, v0] 0 []
  rw [WordAll_bc_vc]
  show ((L2.yes L2.f_messuagelaw2_begun).rel.pre [] [] ∧ _)
  refine ⟨trivial, fun _ => ?_⟩
  simp only [fnSpec_post, fnSpec_pre, true_and, List.cons.injEq, and_true, List.getD_cons_zero, List.getD_cons_succ, and_imp]
  intro v8 v9 e8 e9 v10 v11 e10 e11
  subst e8 e9 e10 e11
  simp only [b2i, forall_eq]
  repeat' first | refine And.intro ?_ ?_ | intro _
  all_goals first | trivial | omega | grind)

noncomputable def WordAll_ca_t : Tree := .call 25 (L2.yes L2.f_messuagelaw2_begun).rel [] [] 0 0 (.call 39 (L2.kind_ 39).rel [.v 0, .v 1, .v 2, .v 3, .v 4] [] 2 0 (.call 40 (L2.kind_ 40).rel [.v 0, .v 1, .v 2, .v 3, .v 4] [] 2 0 (.letI (.cmp .leq (.v 7) (.c 0)) (.ite (.v 12) (.letI (.cmp .eql (.v 8) (.v 10)) (.ite (.v 13) (.letI (.not (.v 9)) (.letI (.not (.v 11)) (.letI (.cmp .eql (.v 14) (.v 15)) (.ite (.v 16) (.call 43 (L2.args_ 43).rel [.v 8] [] 1 0 (.call 44 (L2.args_ 44).rel [.v 8] [] 1 0 (.letI (.cmp .eql (.v 17) (.v 18)) (.ite (.v 19) (.call 43 (L2.args_ 43).rel [.v 6] [] 1 0 (.call 44 (L2.args_ 44).rel [.v 6] [] 1 0 (.letI (.cmp .eql (.v 20) (.v 21)) (.ite (.v 22) (.call 26 (L2.check_ 26).rel [.v 0, .v 1, .v 2, .v 3, .v 4, .v 5] [] 1 0 (.call 27 (L2.check_ 27).rel [.v 0, .v 1, .v 2, .v 3, .v 4, .v 5] [] 1 0 (.letI (.cmp .eql (.v 23) (.v 24)) (.ite (.v 25) (.done [] []) (.fail 180))))) (.fail 180))))) (.fail 180))))) (.fail 180))))) (.fail 180))) (.letI (.cmp .leq (.v 7) (.v 2)) (.ite (.v 13) (.letI (.cmp .eql (.v 8) (.v 10)) (.ite (.v 14) (.letI (.not (.v 9)) (.letI (.not (.v 11)) (.letI (.cmp .eql (.v 15) (.v 16)) (.ite (.v 17) (.call 43 (L2.args_ 43).rel [.v 8] [] 1 0 (.call 44 (L2.args_ 44).rel [.v 8] [] 1 0 (.letI (.cmp .eql (.v 18) (.v 19)) (.ite (.v 20) (.call 43 (L2.args_ 43).rel [.v 6] [] 1 0 (.call 44 (L2.args_ 44).rel [.v 6] [] 1 0 (.letI (.cmp .eql (.v 21) (.v 22)) (.ite (.v 23) (.call 26 (L2.check_ 26).rel [.v 0, .v 1, .v 2, .v 3, .v 4, .v 5] [] 1 0 (.call 27 (L2.check_ 27).rel [.v 0, .v 1, .v 2, .v 3, .v 4, .v 5] [] 1 0 (.letI (.cmp .eql (.v 24) (.v 25)) (.ite (.v 26) (.done [] []) (.fail 180))))) (.fail 180))))) (.fail 180))))) (.fail 180))))) (.fail 180))) (.letI (.cmp .eql (.v 8) (.v 10)) (.ite (.v 14) (.letI (.not (.v 9)) (.letI (.not (.v 11)) (.letI (.cmp .eql (.v 15) (.v 16)) (.ite (.v 17) (.call 43 (L2.args_ 43).rel [.v 8] [] 1 0 (.call 44 (L2.args_ 44).rel [.v 8] [] 1 0 (.letI (.cmp .eql (.v 18) (.v 19)) (.ite (.v 20) (.call 43 (L2.args_ 43).rel [.v 6] [] 1 0 (.call 44 (L2.args_ 44).rel [.v 6] [] 1 0 (.letI (.cmp .eql (.v 21) (.v 22)) (.ite (.v 23) (.call 26 (L2.check_ 26).rel [.v 0, .v 1, .v 2, .v 3, .v 4, .v 5] [] 1 0 (.call 27 (L2.check_ 27).rel [.v 0, .v 1, .v 2, .v 3, .v 4, .v 5] [] 1 0 (.letI (.cmp .eql (.v 24) (.v 25)) (.ite (.v 26) (.done [] []) (.fail 180))))) (.fail 180))))) (.fail 180))))) (.fail 180))))) (.fail 180)))))))))
theorem WordAll_ca_tree : (((lawSpec 8 [.agg L2.ks5, .one (.i .i64), .one (.i .i64), .one (.i .i64)]).withRng 6 (2) (2)).withRng 1 (0) (0)).exe Tryz.prog (withS (L2.cfg2 Tryz.prog) [L2.kind_ 39, L2.kind_ 40, L2.check_ 26, L2.check_ 27, L2.args_ 43, L2.args_ 44, L2.within_ 56, L2.within_ 57, L2.lets_ 58, L2.lets_ 59, L2.put_ 52, L2.put_ 77, L2.get_ 53, L2.get_ 78]) [] 20 200 = WordAll_ca_t := by kernel_rfl
theorem WordAll_ca_vc (Q : List Int → List (List Int) → Prop) (v0 v1 v2 v3 v4 v5 v6 v7 : Int) : WordAll_ca_t.dn ⟨Q, []⟩ 8 [v7, v6, v5, v4, v3, v2, v1, v0] 0 [] = ((L2.yes L2.f_messuagelaw2_begun).rel.pre [] [] ∧
((L2.yes L2.f_messuagelaw2_begun).rel.post [] [] [] [] → (L2.kind_ 39).rel.pre [v0, v1, v2, v3, v4] [] ∧
(∀ v8 : Int, ∀ v9 : Int, (L2.kind_ 39).rel.post [v0, v1, v2, v3, v4] [] [v8, v9] [] → (L2.kind_ 40).rel.pre [v0, v1, v2, v3, v4] [] ∧
(∀ v10 : Int, ∀ v11 : Int, (L2.kind_ 40).rel.post [v0, v1, v2, v3, v4] [] [v10, v11] [] → ((v7 ≤ (0 : Int)) → ((v8 = v10) → ∀ v14 : Int, v14 = b2i (v9 == 0) → ∀ v15 : Int, v15 = b2i (v11 == 0) → ((v14 = v15) → (L2.args_ 43).rel.pre [v8] [] ∧
(∀ v17 : Int, (L2.args_ 43).rel.post [v8] [] [v17] [] → (L2.args_ 44).rel.pre [v8] [] ∧
(∀ v18 : Int, (L2.args_ 44).rel.post [v8] [] [v18] [] → ((v17 = v18) → (L2.args_ 43).rel.pre [v6] [] ∧
(∀ v20 : Int, (L2.args_ 43).rel.post [v6] [] [v20] [] → (L2.args_ 44).rel.pre [v6] [] ∧
(∀ v21 : Int, (L2.args_ 44).rel.post [v6] [] [v21] [] → ((v20 = v21) → (L2.check_ 26).rel.pre [v0, v1, v2, v3, v4, v5] [] ∧
(∀ v23 : Int, (L2.check_ 26).rel.post [v0, v1, v2, v3, v4, v5] [] [v23] [] → (L2.check_ 27).rel.pre [v0, v1, v2, v3, v4, v5] [] ∧
(∀ v24 : Int, (L2.check_ 27).rel.post [v0, v1, v2, v3, v4, v5] [] [v24] [] → ((v23 = v24) → Q [] []) ∧
((v23 ≠ v24) → False)))) ∧
((v20 ≠ v21) → False)))) ∧
((v17 ≠ v18) → False)))) ∧
((v14 ≠ v15) → False)) ∧
((v8 ≠ v10) → False)) ∧
(((0 : Int) < v7) → ((v7 ≤ v2) → ((v8 = v10) → ∀ v15 : Int, v15 = b2i (v9 == 0) → ∀ v16 : Int, v16 = b2i (v11 == 0) → ((v15 = v16) → (L2.args_ 43).rel.pre [v8] [] ∧
(∀ v18 : Int, (L2.args_ 43).rel.post [v8] [] [v18] [] → (L2.args_ 44).rel.pre [v8] [] ∧
(∀ v19 : Int, (L2.args_ 44).rel.post [v8] [] [v19] [] → ((v18 = v19) → (L2.args_ 43).rel.pre [v6] [] ∧
(∀ v21 : Int, (L2.args_ 43).rel.post [v6] [] [v21] [] → (L2.args_ 44).rel.pre [v6] [] ∧
(∀ v22 : Int, (L2.args_ 44).rel.post [v6] [] [v22] [] → ((v21 = v22) → (L2.check_ 26).rel.pre [v0, v1, v2, v3, v4, v5] [] ∧
(∀ v24 : Int, (L2.check_ 26).rel.post [v0, v1, v2, v3, v4, v5] [] [v24] [] → (L2.check_ 27).rel.pre [v0, v1, v2, v3, v4, v5] [] ∧
(∀ v25 : Int, (L2.check_ 27).rel.post [v0, v1, v2, v3, v4, v5] [] [v25] [] → ((v24 = v25) → Q [] []) ∧
((v24 ≠ v25) → False)))) ∧
((v21 ≠ v22) → False)))) ∧
((v18 ≠ v19) → False)))) ∧
((v15 ≠ v16) → False)) ∧
((v8 ≠ v10) → False)) ∧
((v2 < v7) → ((v8 = v10) → ∀ v15 : Int, v15 = b2i (v9 == 0) → ∀ v16 : Int, v16 = b2i (v11 == 0) → ((v15 = v16) → (L2.args_ 43).rel.pre [v8] [] ∧
(∀ v18 : Int, (L2.args_ 43).rel.post [v8] [] [v18] [] → (L2.args_ 44).rel.pre [v8] [] ∧
(∀ v19 : Int, (L2.args_ 44).rel.post [v8] [] [v19] [] → ((v18 = v19) → (L2.args_ 43).rel.pre [v6] [] ∧
(∀ v21 : Int, (L2.args_ 43).rel.post [v6] [] [v21] [] → (L2.args_ 44).rel.pre [v6] [] ∧
(∀ v22 : Int, (L2.args_ 44).rel.post [v6] [] [v22] [] → ((v21 = v22) → (L2.check_ 26).rel.pre [v0, v1, v2, v3, v4, v5] [] ∧
(∀ v24 : Int, (L2.check_ 26).rel.post [v0, v1, v2, v3, v4, v5] [] [v24] [] → (L2.check_ 27).rel.pre [v0, v1, v2, v3, v4, v5] [] ∧
(∀ v25 : Int, (L2.check_ 27).rel.post [v0, v1, v2, v3, v4, v5] [] [v25] [] → ((v24 = v25) → Q [] []) ∧
((v24 ≠ v25) → False)))) ∧
((v21 ≠ v22) → False)))) ∧
((v18 ≠ v19) → False)))) ∧
((v15 ≠ v16) → False)) ∧
((v8 ≠ v10) → False))))))) := by kernel_rfl
set_option maxHeartbeats 4000000 in
theorem wordAll_part_ca0 : (((lawSpec 8 [.agg L2.ks5, .one (.i .i64), .one (.i .i64), .one (.i .i64)]).withRng 6 (2) (2)).withRng 1 (0) (0)).Holds Tryz.prog L2.ro := FSpec.holdsV (cfg := withS (L2.cfg2 Tryz.prog) [L2.kind_ 39, L2.kind_ 40, L2.check_ 26, L2.check_ 27, L2.args_ 43, L2.args_ 44, L2.within_ 56, L2.within_ 57, L2.lets_ 58, L2.lets_ 59, L2.put_ 52, L2.put_ 77, L2.get_ 53, L2.get_ 78]) [] 20 200 (withS_ok cfg2_ok ⟨wKind_holds, rKind_holds, wCheck_holds, rCheck_holds, wArgs_holds, rArgs_holds, pWithin_holds, rWithin_holds, pLets_holds, rLets_holds, pPut_holds, rPte_holds, pGet_holds, rGet_holds, trivial⟩) mixed (t := WordAll_ca_t) WordAll_ca_tree (by
  show ∀ (v0 v1 v2 v3 v4 v5 v6 v7 : Int) , _
  intro v0 v1 v2 v3 v4 v5 v6 v7  hp hr hl
  replace hr : (((0) : Int) ≤ v1 ∧ v1 ≤ ((0) : Int)) ∧ (((2) : Int) ≤ v6 ∧ v6 ≤ ((2) : Int)) ∧ ((0 : Int) ≤ v0 ∧ v0 ≤ (18446744073709551615 : Int)) ∧ ((0 : Int) ≤ v1 ∧ v1 ≤ (18446744073709551615 : Int)) ∧ ((0 : Int) ≤ v2 ∧ v2 ≤ (18446744073709551615 : Int)) ∧ ((0 : Int) ≤ v3 ∧ v3 ≤ (18446744073709551615 : Int)) ∧ ((0 : Int) ≤ v4 ∧ v4 ≤ (18446744073709551615 : Int)) ∧ ((-9223372036854775808 : Int) ≤ v5 ∧ v5 ≤ (9223372036854775807 : Int)) ∧ ((-9223372036854775808 : Int) ≤ v6 ∧ v6 ≤ (9223372036854775807 : Int)) ∧ ((-9223372036854775808 : Int) ≤ v7 ∧ v7 ≤ (9223372036854775807 : Int)) ∧ True := hr
  replace hp : True := hp
  show WordAll_ca_t.dn ⟨_, []⟩ 8 [v7, v6, v5, v4, v3, v2, v1, v0] 0 []
  rw [WordAll_ca_vc]
  show ((L2.yes L2.f_messuagelaw2_begun).rel.pre [] [] ∧ _)
  refine ⟨trivial, fun _ => ?_⟩
  simp only [fnSpec_post, fnSpec_pre, true_and, List.cons.injEq, and_true, List.getD_cons_zero, List.getD_cons_succ, and_imp]
  intro v8 v9 e8 e9 v10 v11 e10 e11
  subst e8 e9 e10 e11
  simp only [b2i, forall_eq]
  repeat' first | refine And.intro ?_ ?_ | intro _
  all_goals first | trivial | omega | grind)

noncomputable def WordAll_cb_t : Tree := .call 25 (L2.yes L2.f_messuagelaw2_begun).rel [] [] 0 0 (.call 39 (L2.kind_ 39).rel [.v 0, .v 1, .v 2, .v 3, .v 4] [] 2 0 (.call 40 (L2.kind_ 40).rel [.v 0, .v 1, .v 2, .v 3, .v 4] [] 2 0 (.letI (.cmp .leq (.v 7) (.c 0)) (.ite (.v 12) (.letI (.cmp .eql (.v 8) (.v 10)) (.ite (.v 13) (.letI (.not (.v 9)) (.letI (.not (.v 11)) (.letI (.cmp .eql (.v 14) (.v 15)) (.ite (.v 16) (.call 43 (L2.args_ 43).rel [.v 8] [] 1 0 (.call 44 (L2.args_ 44).rel [.v 8] [] 1 0 (.letI (.cmp .eql (.v 17) (.v 18)) (.ite (.v 19) (.call 43 (L2.args_ 43).rel [.v 6] [] 1 0 (.call 44 (L2.args_ 44).rel [.v 6] [] 1 0 (.letI (.cmp .eql (.v 20) (.v 21)) (.ite (.v 22) (.call 26 (L2.check_ 26).rel [.v 0, .v 1, .v 2, .v 3, .v 4, .v 5] [] 1 0 (.call 27 (L2.check_ 27).rel [.v 0, .v 1, .v 2, .v 3, .v 4, .v 5] [] 1 0 (.letI (.cmp .eql (.v 23) (.v 24)) (.ite (.v 25) (.done [] []) (.fail 180))))) (.fail 180))))) (.fail 180))))) (.fail 180))))) (.fail 180))) (.letI (.cmp .leq (.v 7) (.v 2)) (.ite (.v 13) (.letI (.cmp .eql (.v 8) (.v 10)) (.ite (.v 14) (.letI (.not (.v 9)) (.letI (.not (.v 11)) (.letI (.cmp .eql (.v 15) (.v 16)) (.ite (.v 17) (.call 43 (L2.args_ 43).rel [.v 8] [] 1 0 (.call 44 (L2.args_ 44).rel [.v 8] [] 1 0 (.letI (.cmp .eql (.v 18) (.v 19)) (.ite (.v 20) (.call 43 (L2.args_ 43).rel [.v 6] [] 1 0 (.call 44 (L2.args_ 44).rel [.v 6] [] 1 0 (.letI (.cmp .eql (.v 21) (.v 22)) (.ite (.v 23) (.call 26 (L2.check_ 26).rel [.v 0, .v 1, .v 2, .v 3, .v 4, .v 5] [] 1 0 (.call 27 (L2.check_ 27).rel [.v 0, .v 1, .v 2, .v 3, .v 4, .v 5] [] 1 0 (.letI (.cmp .eql (.v 24) (.v 25)) (.ite (.v 26) (.done [] []) (.fail 180))))) (.fail 180))))) (.fail 180))))) (.fail 180))))) (.fail 180))) (.letI (.cmp .eql (.v 8) (.v 10)) (.ite (.v 14) (.letI (.not (.v 9)) (.letI (.not (.v 11)) (.letI (.cmp .eql (.v 15) (.v 16)) (.ite (.v 17) (.call 43 (L2.args_ 43).rel [.v 8] [] 1 0 (.call 44 (L2.args_ 44).rel [.v 8] [] 1 0 (.letI (.cmp .eql (.v 18) (.v 19)) (.ite (.v 20) (.call 43 (L2.args_ 43).rel [.v 6] [] 1 0 (.call 44 (L2.args_ 44).rel [.v 6] [] 1 0 (.letI (.cmp .eql (.v 21) (.v 22)) (.ite (.v 23) (.call 26 (L2.check_ 26).rel [.v 0, .v 1, .v 2, .v 3, .v 4, .v 5] [] 1 0 (.call 27 (L2.check_ 27).rel [.v 0, .v 1, .v 2, .v 3, .v 4, .v 5] [] 1 0 (.letI (.cmp .eql (.v 24) (.v 25)) (.ite (.v 26) (.done [] []) (.fail 180))))) (.fail 180))))) (.fail 180))))) (.fail 180))))) (.fail 180)))))))))
theorem WordAll_cb_tree : (((lawSpec 8 [.agg L2.ks5, .one (.i .i64), .one (.i .i64), .one (.i .i64)]).withRng 6 (2) (2)).withRng 1 (1) (3)).exe Tryz.prog (withS (L2.cfg2 Tryz.prog) [L2.kind_ 39, L2.kind_ 40, L2.check_ 26, L2.check_ 27, L2.args_ 43, L2.args_ 44, L2.within_ 56, L2.within_ 57, L2.lets_ 58, L2.lets_ 59, L2.put_ 52, L2.put_ 77, L2.get_ 53, L2.get_ 78]) [] 20 200 = WordAll_cb_t := by kernel_rfl
theorem WordAll_cb_vc (Q : List Int → List (List Int) → Prop) (v0 v1 v2 v3 v4 v5 v6 v7 : Int) : WordAll_cb_t.dn ⟨Q, []⟩ 8 [v7, v6, v5, v4, v3, v2, v1, v0] 0 [] = ((L2.yes L2.f_messuagelaw2_begun).rel.pre [] [] ∧
((L2.yes L2.f_messuagelaw2_begun).rel.post [] [] [] [] → (L2.kind_ 39).rel.pre [v0, v1, v2, v3, v4] [] ∧
(∀ v8 : Int, ∀ v9 : Int, (L2.kind_ 39).rel.post [v0, v1, v2, v3, v4] [] [v8, v9] [] → (L2.kind_ 40).rel.pre [v0, v1, v2, v3, v4] [] ∧
(∀ v10 : Int, ∀ v11 : Int, (L2.kind_ 40).rel.post [v0, v1, v2, v3, v4] [] [v10, v11] [] → ((v7 ≤ (0 : Int)) → ((v8 = v10) → ∀ v14 : Int, v14 = b2i (v9 == 0) → ∀ v15 : Int, v15 = b2i (v11 == 0) → ((v14 = v15) → (L2.args_ 43).rel.pre [v8] [] ∧
(∀ v17 : Int, (L2.args_ 43).rel.post [v8] [] [v17] [] → (L2.args_ 44).rel.pre [v8] [] ∧
(∀ v18 : Int, (L2.args_ 44).rel.post [v8] [] [v18] [] → ((v17 = v18) → (L2.args_ 43).rel.pre [v6] [] ∧
(∀ v20 : Int, (L2.args_ 43).rel.post [v6] [] [v20] [] → (L2.args_ 44).rel.pre [v6] [] ∧
(∀ v21 : Int, (L2.args_ 44).rel.post [v6] [] [v21] [] → ((v20 = v21) → (L2.check_ 26).rel.pre [v0, v1, v2, v3, v4, v5] [] ∧
(∀ v23 : Int, (L2.check_ 26).rel.post [v0, v1, v2, v3, v4, v5] [] [v23] [] → (L2.check_ 27).rel.pre [v0, v1, v2, v3, v4, v5] [] ∧
(∀ v24 : Int, (L2.check_ 27).rel.post [v0, v1, v2, v3, v4, v5] [] [v24] [] → ((v23 = v24) → Q [] []) ∧
((v23 ≠ v24) → False)))) ∧
((v20 ≠ v21) → False)))) ∧
((v17 ≠ v18) → False)))) ∧
((v14 ≠ v15) → False)) ∧
((v8 ≠ v10) → False)) ∧
(((0 : Int) < v7) → ((v7 ≤ v2) → ((v8 = v10) → ∀ v15 : Int, v15 = b2i (v9 == 0) → ∀ v16 : Int, v16 = b2i (v11 == 0) → ((v15 = v16) → (L2.args_ 43).rel.pre [v8] [] ∧
(∀ v18 : Int, (L2.args_ 43).rel.post [v8] [] [v18] [] → (L2.args_ 44).rel.pre [v8] [] ∧
(∀ v19 : Int, (L2.args_ 44).rel.post [v8] [] [v19] [] → ((v18 = v19) → (L2.args_ 43).rel.pre [v6] [] ∧
(∀ v21 : Int, (L2.args_ 43).rel.post [v6] [] [v21] [] → (L2.args_ 44).rel.pre [v6] [] ∧
(∀ v22 : Int, (L2.args_ 44).rel.post [v6] [] [v22] [] → ((v21 = v22) → (L2.check_ 26).rel.pre [v0, v1, v2, v3, v4, v5] [] ∧
(∀ v24 : Int, (L2.check_ 26).rel.post [v0, v1, v2, v3, v4, v5] [] [v24] [] → (L2.check_ 27).rel.pre [v0, v1, v2, v3, v4, v5] [] ∧
(∀ v25 : Int, (L2.check_ 27).rel.post [v0, v1, v2, v3, v4, v5] [] [v25] [] → ((v24 = v25) → Q [] []) ∧
((v24 ≠ v25) → False)))) ∧
((v21 ≠ v22) → False)))) ∧
((v18 ≠ v19) → False)))) ∧
((v15 ≠ v16) → False)) ∧
((v8 ≠ v10) → False)) ∧
((v2 < v7) → ((v8 = v10) → ∀ v15 : Int, v15 = b2i (v9 == 0) → ∀ v16 : Int, v16 = b2i (v11 == 0) → ((v15 = v16) → (L2.args_ 43).rel.pre [v8] [] ∧
(∀ v18 : Int, (L2.args_ 43).rel.post [v8] [] [v18] [] → (L2.args_ 44).rel.pre [v8] [] ∧
(∀ v19 : Int, (L2.args_ 44).rel.post [v8] [] [v19] [] → ((v18 = v19) → (L2.args_ 43).rel.pre [v6] [] ∧
(∀ v21 : Int, (L2.args_ 43).rel.post [v6] [] [v21] [] → (L2.args_ 44).rel.pre [v6] [] ∧
(∀ v22 : Int, (L2.args_ 44).rel.post [v6] [] [v22] [] → ((v21 = v22) → (L2.check_ 26).rel.pre [v0, v1, v2, v3, v4, v5] [] ∧
(∀ v24 : Int, (L2.check_ 26).rel.post [v0, v1, v2, v3, v4, v5] [] [v24] [] → (L2.check_ 27).rel.pre [v0, v1, v2, v3, v4, v5] [] ∧
(∀ v25 : Int, (L2.check_ 27).rel.post [v0, v1, v2, v3, v4, v5] [] [v25] [] → ((v24 = v25) → Q [] []) ∧
((v24 ≠ v25) → False)))) ∧
((v21 ≠ v22) → False)))) ∧
((v18 ≠ v19) → False)))) ∧
((v15 ≠ v16) → False)) ∧
((v8 ≠ v10) → False))))))) := by kernel_rfl
set_option maxHeartbeats 4000000 in
theorem wordAll_part_cb0 : (((lawSpec 8 [.agg L2.ks5, .one (.i .i64), .one (.i .i64), .one (.i .i64)]).withRng 6 (2) (2)).withRng 1 (1) (3)).Holds Tryz.prog L2.ro := FSpec.holdsV (cfg := withS (L2.cfg2 Tryz.prog) [L2.kind_ 39, L2.kind_ 40, L2.check_ 26, L2.check_ 27, L2.args_ 43, L2.args_ 44, L2.within_ 56, L2.within_ 57, L2.lets_ 58, L2.lets_ 59, L2.put_ 52, L2.put_ 77, L2.get_ 53, L2.get_ 78]) [] 20 200 (withS_ok cfg2_ok ⟨wKind_holds, rKind_holds, wCheck_holds, rCheck_holds, wArgs_holds, rArgs_holds, pWithin_holds, rWithin_holds, pLets_holds, rLets_holds, pPut_holds, rPte_holds, pGet_holds, rGet_holds, trivial⟩) mixed (t := WordAll_cb_t) WordAll_cb_tree (by
  show ∀ (v0 v1 v2 v3 v4 v5 v6 v7 : Int) , _
  intro v0 v1 v2 v3 v4 v5 v6 v7  hp hr hl
  replace hr : (((1) : Int) ≤ v1 ∧ v1 ≤ ((3) : Int)) ∧ (((2) : Int) ≤ v6 ∧ v6 ≤ ((2) : Int)) ∧ ((0 : Int) ≤ v0 ∧ v0 ≤ (18446744073709551615 : Int)) ∧ ((0 : Int) ≤ v1 ∧ v1 ≤ (18446744073709551615 : Int)) ∧ ((0 : Int) ≤ v2 ∧ v2 ≤ (18446744073709551615 : Int)) ∧ ((0 : Int) ≤ v3 ∧ v3 ≤ (18446744073709551615 : Int)) ∧ ((0 : Int) ≤ v4 ∧ v4 ≤ (18446744073709551615 : Int)) ∧ ((-9223372036854775808 : Int) ≤ v5 ∧ v5 ≤ (9223372036854775807 : Int)) ∧ ((-9223372036854775808 : Int) ≤ v6 ∧ v6 ≤ (9223372036854775807 : Int)) ∧ ((-9223372036854775808 : Int) ≤ v7 ∧ v7 ≤ (9223372036854775807 : Int)) ∧ True := hr
  replace hp : True := hp
  show WordAll_cb_t.dn ⟨_, []⟩ 8 [v7, v6, v5, v4, v3, v2, v1, v0] 0 []
  rw [WordAll_cb_vc]
  show ((L2.yes L2.f_messuagelaw2_begun).rel.pre [] [] ∧ _)
  refine ⟨trivial, fun _ => ?_⟩
  simp only [fnSpec_post, fnSpec_pre, true_and, List.cons.injEq, and_true, List.getD_cons_zero, List.getD_cons_succ, and_imp]
  intro v8 v9 e8 e9 v10 v11 e10 e11
  subst e8 e9 e10 e11
  simp only [b2i, forall_eq]
  repeat' first | refine And.intro ?_ ?_ | intro _
  all_goals first | trivial | omega | grind)

noncomputable def WordAll_cc_t : Tree := .call 25 (L2.yes L2.f_messuagelaw2_begun).rel [] [] 0 0 (.call 39 (L2.kind_ 39).rel [.v 0, .v 1, .v 2, .v 3, .v 4] [] 2 0 (.call 40 (L2.kind_ 40).rel [.v 0, .v 1, .v 2, .v 3, .v 4] [] 2 0 (.letI (.cmp .leq (.v 7) (.c 0)) (.ite (.v 12) (.letI (.cmp .eql (.v 8) (.v 10)) (.ite (.v 13) (.letI (.not (.v 9)) (.letI (.not (.v 11)) (.letI (.cmp .eql (.v 14) (.v 15)) (.ite (.v 16) (.call 43 (L2.args_ 43).rel [.v 8] [] 1 0 (.call 44 (L2.args_ 44).rel [.v 8] [] 1 0 (.letI (.cmp .eql (.v 17) (.v 18)) (.ite (.v 19) (.call 43 (L2.args_ 43).rel [.v 6] [] 1 0 (.call 44 (L2.args_ 44).rel [.v 6] [] 1 0 (.letI (.cmp .eql (.v 20) (.v 21)) (.ite (.v 22) (.call 26 (L2.check_ 26).rel [.v 0, .v 1, .v 2, .v 3, .v 4, .v 5] [] 1 0 (.call 27 (L2.check_ 27).rel [.v 0, .v 1, .v 2, .v 3, .v 4, .v 5] [] 1 0 (.letI (.cmp .eql (.v 23) (.v 24)) (.ite (.v 25) (.done [] []) (.fail 180))))) (.fail 180))))) (.fail 180))))) (.fail 180))))) (.fail 180))) (.letI (.cmp .leq (.v 7) (.v 2)) (.ite (.v 13) (.letI (.cmp .eql (.v 8) (.v 10)) (.ite (.v 14) (.letI (.not (.v 9)) (.letI (.not (.v 11)) (.letI (.cmp .eql (.v 15) (.v 16)) (.ite (.v 17) (.call 43 (L2.args_ 43).rel [.v 8] [] 1 0 (.call 44 (L2.args_ 44).rel [.v 8] [] 1 0 (.letI (.cmp .eql (.v 18) (.v 19)) (.ite (.v 20) (.call 43 (L2.args_ 43).rel [.v 6] [] 1 0 (.call 44 (L2.args_ 44).rel [.v 6] [] 1 0 (.letI (.cmp .eql (.v 21) (.v 22)) (.ite (.v 23) (.call 26 (L2.check_ 26).rel [.v 0, .v 1, .v 2, .v 3, .v 4, .v 5] [] 1 0 (.call 27 (L2.check_ 27).rel [.v 0, .v 1, .v 2, .v 3, .v 4, .v 5] [] 1 0 (.letI (.cmp .eql (.v 24) (.v 25)) (.ite (.v 26) (.done [] []) (.fail 180))))) (.fail 180))))) (.fail 180))))) (.fail 180))))) (.fail 180))) (.letI (.cmp .eql (.v 8) (.v 10)) (.ite (.v 14) (.letI (.not (.v 9)) (.letI (.not (.v 11)) (.letI (.cmp .eql (.v 15) (.v 16)) (.ite (.v 17) (.call 43 (L2.args_ 43).rel [.v 8] [] 1 0 (.call 44 (L2.args_ 44).rel [.v 8] [] 1 0 (.letI (.cmp .eql (.v 18) (.v 19)) (.ite (.v 20) (.call 43 (L2.args_ 43).rel [.v 6] [] 1 0 (.call 44 (L2.args_ 44).rel [.v 6] [] 1 0 (.letI (.cmp .eql (.v 21) (.v 22)) (.ite (.v 23) (.call 26 (L2.check_ 26).rel [.v 0, .v 1, .v 2, .v 3, .v 4, .v 5] [] 1 0 (.call 27 (L2.check_ 27).rel [.v 0, .v 1, .v 2, .v 3, .v 4, .v 5] [] 1 0 (.letI (.cmp .eql (.v 24) (.v 25)) (.ite (.v 26) (.done [] []) (.fail 180))))) (.fail 180))))) (.fail 180))))) (.fail 180))))) (.fail 180)))))))))
theorem WordAll_cc_tree : (((lawSpec 8 [.agg L2.ks5, .one (.i .i64), .one (.i .i64), .one (.i .i64)]).withRng 6 (2) (2)).withRng 1 (4) (18446744073709551615)).exe Tryz.prog (withS (L2.cfg2 Tryz.prog) [L2.kind_ 39, L2.kind_ 40, L2.check_ 26, L2.check_ 27, L2.args_ 43, L2.args_ 44, L2.within_ 56, L2.within_ 57, L2.lets_ 58, L2.lets_ 59, L2.put_ 52, L2.put_ 77, L2.get_ 53, L2.get_ 78]) [] 20 200 = WordAll_cc_t := by kernel_rfl
theorem WordAll_cc_vc (Q : List Int → List (List Int) → Prop) (v0 v1 v2 v3 v4 v5 v6 v7 : Int) : WordAll_cc_t.dn ⟨Q, []⟩ 8 [v7, v6, v5, v4, v3, v2, v1, v0] 0 [] = ((L2.yes L2.f_messuagelaw2_begun).rel.pre [] [] ∧
((L2.yes L2.f_messuagelaw2_begun).rel.post [] [] [] [] → (L2.kind_ 39).rel.pre [v0, v1, v2, v3, v4] [] ∧
(∀ v8 : Int, ∀ v9 : Int, (L2.kind_ 39).rel.post [v0, v1, v2, v3, v4] [] [v8, v9] [] → (L2.kind_ 40).rel.pre [v0, v1, v2, v3, v4] [] ∧
(∀ v10 : Int, ∀ v11 : Int, (L2.kind_ 40).rel.post [v0, v1, v2, v3, v4] [] [v10, v11] [] → ((v7 ≤ (0 : Int)) → ((v8 = v10) → ∀ v14 : Int, v14 = b2i (v9 == 0) → ∀ v15 : Int, v15 = b2i (v11 == 0) → ((v14 = v15) → (L2.args_ 43).rel.pre [v8] [] ∧
(∀ v17 : Int, (L2.args_ 43).rel.post [v8] [] [v17] [] → (L2.args_ 44).rel.pre [v8] [] ∧
(∀ v18 : Int, (L2.args_ 44).rel.post [v8] [] [v18] [] → ((v17 = v18) → (L2.args_ 43).rel.pre [v6] [] ∧
(∀ v20 : Int, (L2.args_ 43).rel.post [v6] [] [v20] [] → (L2.args_ 44).rel.pre [v6] [] ∧
(∀ v21 : Int, (L2.args_ 44).rel.post [v6] [] [v21] [] → ((v20 = v21) → (L2.check_ 26).rel.pre [v0, v1, v2, v3, v4, v5] [] ∧
(∀ v23 : Int, (L2.check_ 26).rel.post [v0, v1, v2, v3, v4, v5] [] [v23] [] → (L2.check_ 27).rel.pre [v0, v1, v2, v3, v4, v5] [] ∧
(∀ v24 : Int, (L2.check_ 27).rel.post [v0, v1, v2, v3, v4, v5] [] [v24] [] → ((v23 = v24) → Q [] []) ∧
((v23 ≠ v24) → False)))) ∧
((v20 ≠ v21) → False)))) ∧
((v17 ≠ v18) → False)))) ∧
((v14 ≠ v15) → False)) ∧
((v8 ≠ v10) → False)) ∧
(((0 : Int) < v7) → ((v7 ≤ v2) → ((v8 = v10) → ∀ v15 : Int, v15 = b2i (v9 == 0) → ∀ v16 : Int, v16 = b2i (v11 == 0) → ((v15 = v16) → (L2.args_ 43).rel.pre [v8] [] ∧
(∀ v18 : Int, (L2.args_ 43).rel.post [v8] [] [v18] [] → (L2.args_ 44).rel.pre [v8] [] ∧
(∀ v19 : Int, (L2.args_ 44).rel.post [v8] [] [v19] [] → ((v18 = v19) → (L2.args_ 43).rel.pre [v6] [] ∧
(∀ v21 : Int, (L2.args_ 43).rel.post [v6] [] [v21] [] → (L2.args_ 44).rel.pre [v6] [] ∧
(∀ v22 : Int, (L2.args_ 44).rel.post [v6] [] [v22] [] → ((v21 = v22) → (L2.check_ 26).rel.pre [v0, v1, v2, v3, v4, v5] [] ∧
(∀ v24 : Int, (L2.check_ 26).rel.post [v0, v1, v2, v3, v4, v5] [] [v24] [] → (L2.check_ 27).rel.pre [v0, v1, v2, v3, v4, v5] [] ∧
(∀ v25 : Int, (L2.check_ 27).rel.post [v0, v1, v2, v3, v4, v5] [] [v25] [] → ((v24 = v25) → Q [] []) ∧
((v24 ≠ v25) → False)))) ∧
((v21 ≠ v22) → False)))) ∧
((v18 ≠ v19) → False)))) ∧
((v15 ≠ v16) → False)) ∧
((v8 ≠ v10) → False)) ∧
((v2 < v7) → ((v8 = v10) → ∀ v15 : Int, v15 = b2i (v9 == 0) → ∀ v16 : Int, v16 = b2i (v11 == 0) → ((v15 = v16) → (L2.args_ 43).rel.pre [v8] [] ∧
(∀ v18 : Int, (L2.args_ 43).rel.post [v8] [] [v18] [] → (L2.args_ 44).rel.pre [v8] [] ∧
(∀ v19 : Int, (L2.args_ 44).rel.post [v8] [] [v19] [] → ((v18 = v19) → (L2.args_ 43).rel.pre [v6] [] ∧
(∀ v21 : Int, (L2.args_ 43).rel.post [v6] [] [v21] [] → (L2.args_ 44).rel.pre [v6] [] ∧
(∀ v22 : Int, (L2.args_ 44).rel.post [v6] [] [v22] [] → ((v21 = v22) → (L2.check_ 26).rel.pre [v0, v1, v2, v3, v4, v5] [] ∧
(∀ v24 : Int, (L2.check_ 26).rel.post [v0, v1, v2, v3, v4, v5] [] [v24] [] → (L2.check_ 27).rel.pre [v0, v1, v2, v3, v4, v5] [] ∧
(∀ v25 : Int, (L2.check_ 27).rel.post [v0, v1, v2, v3, v4, v5] [] [v25] [] → ((v24 = v25) → Q [] []) ∧
((v24 ≠ v25) → False)))) ∧
((v21 ≠ v22) → False)))) ∧
((v18 ≠ v19) → False)))) ∧
((v15 ≠ v16) → False)) ∧
((v8 ≠ v10) → False))))))) := by kernel_rfl
set_option maxHeartbeats 4000000 in
theorem wordAll_part_cc0 : (((lawSpec 8 [.agg L2.ks5, .one (.i .i64), .one (.i .i64), .one (.i .i64)]).withRng 6 (2) (2)).withRng 1 (4) (18446744073709551615)).Holds Tryz.prog L2.ro := FSpec.holdsV (cfg := withS (L2.cfg2 Tryz.prog) [L2.kind_ 39, L2.kind_ 40, L2.check_ 26, L2.check_ 27, L2.args_ 43, L2.args_ 44, L2.within_ 56, L2.within_ 57, L2.lets_ 58, L2.lets_ 59, L2.put_ 52, L2.put_ 77, L2.get_ 53, L2.get_ 78]) [] 20 200 (withS_ok cfg2_ok ⟨wKind_holds, rKind_holds, wCheck_holds, rCheck_holds, wArgs_holds, rArgs_holds, pWithin_holds, rWithin_holds, pLets_holds, rLets_holds, pPut_holds, rPte_holds, pGet_holds, rGet_holds, trivial⟩) mixed (t := WordAll_cc_t) WordAll_cc_tree (by
  show ∀ (v0 v1 v2 v3 v4 v5 v6 v7 : Int) , _
  intro v0 v1 v2 v3 v4 v5 v6 v7  hp hr hl
  replace hr : (((4) : Int) ≤ v1 ∧ v1 ≤ ((18446744073709551615) : Int)) ∧ (((2) : Int) ≤ v6 ∧ v6 ≤ ((2) : Int)) ∧ ((0 : Int) ≤ v0 ∧ v0 ≤ (18446744073709551615 : Int)) ∧ ((0 : Int) ≤ v1 ∧ v1 ≤ (18446744073709551615 : Int)) ∧ ((0 : Int) ≤ v2 ∧ v2 ≤ (18446744073709551615 : Int)) ∧ ((0 : Int) ≤ v3 ∧ v3 ≤ (18446744073709551615 : Int)) ∧ ((0 : Int) ≤ v4 ∧ v4 ≤ (18446744073709551615 : Int)) ∧ ((-9223372036854775808 : Int) ≤ v5 ∧ v5 ≤ (9223372036854775807 : Int)) ∧ ((-9223372036854775808 : Int) ≤ v6 ∧ v6 ≤ (9223372036854775807 : Int)) ∧ ((-9223372036854775808 : Int) ≤ v7 ∧ v7 ≤ (9223372036854775807 : Int)) ∧ True := hr
  replace hp : True := hp
  show WordAll_cc_t.dn ⟨_, []⟩ 8 [v7, v6, v5, v4, v3, v2, v1, v0] 0 []
  rw [WordAll_cc_vc]
  show ((L2.yes L2.f_messuagelaw2_begun).rel.pre [] [] ∧ _)
  refine ⟨trivial, fun _ => ?_⟩
  simp only [fnSpec_post, fnSpec_pre, true_and, List.cons.injEq, and_true, List.getD_cons_zero, List.getD_cons_succ, and_imp]
  intro v8 v9 e8 e9 v10 v11 e10 e11
  subst e8 e9 e10 e11
  simp only [b2i, forall_eq]
  repeat' first | refine And.intro ?_ ?_ | intro _
  all_goals first | trivial | omega | grind)

noncomputable def WordAll_da_t : Tree := .call 25 (L2.yes L2.f_messuagelaw2_begun).rel [] [] 0 0 (.call 39 (L2.kind_ 39).rel [.v 0, .v 1, .v 2, .v 3, .v 4] [] 2 0 (.call 40 (L2.kind_ 40).rel [.v 0, .v 1, .v 2, .v 3, .v 4] [] 2 0 (.letI (.cmp .leq (.v 7) (.c 0)) (.ite (.v 12) (.letI (.cmp .eql (.v 8) (.v 10)) (.ite (.v 13) (.letI (.not (.v 9)) (.letI (.not (.v 11)) (.letI (.cmp .eql (.v 14) (.v 15)) (.ite (.v 16) (.call 43 (L2.args_ 43).rel [.v 8] [] 1 0 (.call 44 (L2.args_ 44).rel [.v 8] [] 1 0 (.letI (.cmp .eql (.v 17) (.v 18)) (.ite (.v 19) (.call 43 (L2.args_ 43).rel [.v 6] [] 1 0 (.call 44 (L2.args_ 44).rel [.v 6] [] 1 0 (.letI (.cmp .eql (.v 20) (.v 21)) (.ite (.v 22) (.call 26 (L2.check_ 26).rel [.v 0, .v 1, .v 2, .v 3, .v 4, .v 5] [] 1 0 (.call 27 (L2.check_ 27).rel [.v 0, .v 1, .v 2, .v 3, .v 4, .v 5] [] 1 0 (.letI (.cmp .eql (.v 23) (.v 24)) (.ite (.v 25) (.done [] []) (.fail 180))))) (.fail 180))))) (.fail 180))))) (.fail 180))))) (.fail 180))) (.letI (.cmp .leq (.v 7) (.v 3)) (.ite (.v 13) (.letI (.cmp .eql (.v 8) (.v 10)) (.ite (.v 14) (.letI (.not (.v 9)) (.letI (.not (.v 11)) (.letI (.cmp .eql (.v 15) (.v 16)) (.ite (.v 17) (.call 43 (L2.args_ 43).rel [.v 8] [] 1 0 (.call 44 (L2.args_ 44).rel [.v 8] [] 1 0 (.letI (.cmp .eql (.v 18) (.v 19)) (.ite (.v 20) (.call 43 (L2.args_ 43).rel [.v 6] [] 1 0 (.call 44 (L2.args_ 44).rel [.v 6] [] 1 0 (.letI (.cmp .eql (.v 21) (.v 22)) (.ite (.v 23) (.call 26 (L2.check_ 26).rel [.v 0, .v 1, .v 2, .v 3, .v 4, .v 5] [] 1 0 (.call 27 (L2.check_ 27).rel [.v 0, .v 1, .v 2, .v 3, .v 4, .v 5] [] 1 0 (.letI (.cmp .eql (.v 24) (.v 25)) (.ite (.v 26) (.done [] []) (.fail 180))))) (.fail 180))))) (.fail 180))))) (.fail 180))))) (.fail 180))) (.letI (.cmp .eql (.v 8) (.v 10)) (.ite (.v 14) (.letI (.not (.v 9)) (.letI (.not (.v 11)) (.letI (.cmp .eql (.v 15) (.v 16)) (.ite (.v 17) (.call 43 (L2.args_ 43).rel [.v 8] [] 1 0 (.call 44 (L2.args_ 44).rel [.v 8] [] 1 0 (.letI (.cmp .eql (.v 18) (.v 19)) (.ite (.v 20) (.call 43 (L2.args_ 43).rel [.v 6] [] 1 0 (.call 44 (L2.args_ 44).rel [.v 6] [] 1 0 (.letI (.cmp .eql (.v 21) (.v 22)) (.ite (.v 23) (.call 26 (L2.check_ 26).rel [.v 0, .v 1, .v 2, .v 3, .v 4, .v 5] [] 1 0 (.call 27 (L2.check_ 27).rel [.v 0, .v 1, .v 2, .v 3, .v 4, .v 5] [] 1 0 (.letI (.cmp .eql (.v 24) (.v 25)) (.ite (.v 26) (.done [] []) (.fail 180))))) (.fail 180))))) (.fail 180))))) (.fail 180))))) (.fail 180)))))))))
theorem WordAll_da_tree : (((lawSpec 8 [.agg L2.ks5, .one (.i .i64), .one (.i .i64), .one (.i .i64)]).withRng 6 (3) (3)).withRng 1 (0) (0)).exe Tryz.prog (withS (L2.cfg2 Tryz.prog) [L2.kind_ 39, L2.kind_ 40, L2.check_ 26, L2.check_ 27, L2.args_ 43, L2.args_ 44, L2.within_ 56, L2.within_ 57, L2.lets_ 58, L2.lets_ 59, L2.put_ 52, L2.put_ 77, L2.get_ 53, L2.get_ 78]) [] 20 200 = WordAll_da_t := by kernel_rfl
theorem WordAll_da_vc (Q : List Int → List (List Int) → Prop) (v0 v1 v2 v3 v4 v5 v6 v7 : Int) : WordAll_da_t.dn ⟨Q, []⟩ 8 [v7, v6, v5, v4, v3, v2, v1, v0] 0 [] = ((L2.yes L2.f_messuagelaw2_begun).rel.pre [] [] ∧
((L2.yes L2.f_messuagelaw2_begun).rel.post [] [] [] [] → (L2.kind_ 39).rel.pre [v0, v1, v2, v3, v4] [] ∧
(∀ v8 : Int, ∀ v9 : Int, (L2.kind_ 39).rel.post [v0, v1, v2, v3, v4] [] [v8, v9] [] → (L2.kind_ 40).rel.pre [v0, v1, v2, v3, v4] [] ∧
(∀ v10 : Int, ∀ v11 : Int, (L2.kind_ 40).rel.post [v0, v1, v2, v3, v4] [] [v10, v11] [] → ((v7 ≤ (0 : Int)) → ((v8 = v10) → ∀ v14 : Int, v14 = b2i (v9 == 0) → ∀ v15 : Int, v15 = b2i (v11 == 0) → ((v14 = v15) → (L2.args_ 43).rel.pre [v8] [] ∧
(∀ v17 : Int, (L2.args_ 43).rel.post [v8] [] [v17] [] → (L2.args_ 44).rel.pre [v8] [] ∧
(∀ v18 : Int, (L2.args_ 44).rel.post [v8] [] [v18] [] → ((v17 = v18) → (L2.args_ 43).rel.pre [v6] [] ∧
(∀ v20 : Int, (L2.args_ 43).rel.post [v6] [] [v20] [] → (L2.args_ 44).rel.pre [v6] [] ∧
(∀ v21 : Int, (L2.args_ 44).rel.post [v6] [] [v21] [] → ((v20 = v21) → (L2.check_ 26).rel.pre [v0, v1, v2, v3, v4, v5] [] ∧
(∀ v23 : Int, (L2.check_ 26).rel.post [v0, v1, v2, v3, v4, v5] [] [v23] [] → (L2.check_ 27).rel.pre [v0, v1, v2, v3, v4, v5] [] ∧
(∀ v24 : Int, (L2.check_ 27).rel.post [v0, v1, v2, v3, v4, v5] [] [v24] [] → ((v23 = v24) → Q [] []) ∧
((v23 ≠ v24) → False)))) ∧
((v20 ≠ v21) → False)))) ∧
((v17 ≠ v18) → False)))) ∧
((v14 ≠ v15) → False)) ∧
((v8 ≠ v10) → False)) ∧
(((0 : Int) < v7) → ((v7 ≤ v3) → ((v8 = v10) → ∀ v15 : Int, v15 = b2i (v9 == 0) → ∀ v16 : Int, v16 = b2i (v11 == 0) → ((v15 = v16) → (L2.args_ 43).rel.pre [v8] [] ∧
(∀ v18 : Int, (L2.args_ 43).rel.post [v8] [] [v18] [] → (L2.args_ 44).rel.pre [v8] [] ∧
(∀ v19 : Int, (L2.args_ 44).rel.post [v8] [] [v19] [] → ((v18 = v19) → (L2.args_ 43).rel.pre [v6] [] ∧
(∀ v21 : Int, (L2.args_ 43).rel.post [v6] [] [v21] [] → (L2.args_ 44).rel.pre [v6] [] ∧
(∀ v22 : Int, (L2.args_ 44).rel.post [v6] [] [v22] [] → ((v21 = v22) → (L2.check_ 26).rel.pre [v0, v1, v2, v3, v4, v5] [] ∧
(∀ v24 : Int, (L2.check_ 26).rel.post [v0, v1, v2, v3, v4, v5] [] [v24] [] → (L2.check_ 27).rel.pre [v0, v1, v2, v3, v4, v5] [] ∧
(∀ v25 : Int, (L2.check_ 27).rel.post [v0, v1, v2, v3, v4, v5] [] [v25] [] → ((v24 = v25) → Q [] []) ∧
((v24 ≠ v25) → False)))) ∧
((v21 ≠ v22) → False)))) ∧
((v18 ≠ v19) → False)))) ∧
((v15 ≠ v16) → False)) ∧
((v8 ≠ v10) → False)) ∧
((v3 < v7) → ((v8 = v10) → ∀ v15 : Int, v15 = b2i (v9 == 0) → ∀ v16 : Int, v16 = b2i (v11 == 0) → ((v15 = v16) → (L2.args_ 43).rel.pre [v8] [] ∧
(∀ v18 : Int, (L2.args_ 43).rel.post [v8] [] [v18] [] → (L2.args_ 44).rel.pre [v8] [] ∧
(∀ v19 : Int, (L2.args_ 44).rel.post [v8] [] [v19] [] → ((v18 = v19) → (L2.args_ 43).rel.pre [v6] [] ∧
(∀ v21 : Int, (L2.args_ 43).rel.post [v6] [] [v21] [] → (L2.args_ 44).rel.pre [v6] [] ∧
(∀ v22 : Int, (L2.args_ 44).rel.post [v6] [] [v22] [] → ((v21 = v22) → (L2.check_ 26).rel.pre [v0, v1, v2, v3, v4, v5] [] ∧
(∀ v24 : Int, (L2.check_ 26).rel.post [v0, v1, v2, v3, v4, v5] [] [v24] [] → (L2.check_ 27).rel.pre [v0, v1, v2, v3, v4, v5] [] ∧
(∀ v25 : Int, (L2.check_ 27).rel.post [v0, v1, v2, v3, v4, v5] [] [v25] [] → ((v24 = v25) → Q [] []) ∧
((v24 ≠ v25) → False)))) ∧
((v21 ≠ v22) → False)))) ∧
((v18 ≠ v19) → False)))) ∧
((v15 ≠ v16) → False)) ∧
((v8 ≠ v10) → False))))))) := by kernel_rfl
set_option maxHeartbeats 4000000 in
theorem wordAll_part_da0 : (((lawSpec 8 [.agg L2.ks5, .one (.i .i64), .one (.i .i64), .one (.i .i64)]).withRng 6 (3) (3)).withRng 1 (0) (0)).Holds Tryz.prog L2.ro := FSpec.holdsV (cfg := withS (L2.cfg2 Tryz.prog) [L2.kind_ 39, L2.kind_ 40, L2.check_ 26, L2.check_ 27, L2.args_ 43, L2.args_ 44, L2.within_ 56, L2.within_ 57, L2.lets_ 58, L2.lets_ 59, L2.put_ 52, L2.put_ 77, L2.get_ 53, L2.get_ 78]) [] 20 200 (withS_ok cfg2_ok ⟨wKind_holds, rKind_holds, wCheck_holds, rCheck_holds, wArgs_holds, rArgs_holds, pWithin_holds, rWithin_holds, pLets_holds, rLets_holds, pPut_holds, rPte_holds, pGet_holds, rGet_holds, trivial⟩) mixed (t := WordAll_da_t) WordAll_da_tree (by
  show ∀ (v0 v1 v2 v3 v4 v5 v6 v7 : Int) , _
  intro v0 v1 v2 v3 v4 v5 v6 v7  hp hr hl
  replace hr : (((0) : Int) ≤ v1 ∧ v1 ≤ ((0) : Int)) ∧ (((3) : Int) ≤ v6 ∧ v6 ≤ ((3) : Int)) ∧ ((0 : Int) ≤ v0 ∧ v0 ≤ (18446744073709551615 : Int)) ∧ ((0 : Int) ≤ v1 ∧ v1 ≤ (18446744073709551615 : Int)) ∧ ((0 : Int) ≤ v2 ∧ v2 ≤ (18446744073709551615 : Int)) ∧ ((0 : Int) ≤ v3 ∧ v3 ≤ (18446744073709551615 : Int)) ∧ ((0 : Int) ≤ v4 ∧ v4 ≤ (18446744073709551615 : Int)) ∧ ((-9223372036854775808 : Int) ≤ v5 ∧ v5 ≤ (9223372036854775807 : Int)) ∧ ((-9223372036854775808 : Int) ≤ v6 ∧ v6 ≤ (9223372036854775807 : Int)) ∧ ((-9223372036854775808 : Int) ≤ v7 ∧ v7 ≤ (9223372036854775807 : Int)) ∧ True := hr
  replace hp : True := hp
  show WordAll_da_t.dn ⟨_, []⟩ 8 [v7, v6, v5, v4, v3, v2, v1, v0] 0 []
  rw [WordAll_da_vc]
  show ((L2.yes L2.f_messuagelaw2_begun).rel.pre [] [] ∧ _)
  refine ⟨trivial, fun _ => ?_⟩
  simp only [fnSpec_post, fnSpec_pre, true_and, List.cons.injEq, and_true, List.getD_cons_zero, List.getD_cons_succ, and_imp]
  intro v8 v9 e8 e9 v10 v11 e10 e11
  subst e8 e9 e10 e11
  simp only [b2i, forall_eq]
  repeat' first | refine And.intro ?_ ?_ | intro _
  all_goals first | trivial | omega | grind)

noncomputable def WordAll_db_t : Tree := .call 25 (L2.yes L2.f_messuagelaw2_begun).rel [] [] 0 0 (.call 39 (L2.kind_ 39).rel [.v 0, .v 1, .v 2, .v 3, .v 4] [] 2 0 (.call 40 (L2.kind_ 40).rel [.v 0, .v 1, .v 2, .v 3, .v 4] [] 2 0 (.letI (.cmp .leq (.v 7) (.c 0)) (.ite (.v 12) (.letI (.cmp .eql (.v 8) (.v 10)) (.ite (.v 13) (.letI (.not (.v 9)) (.letI (.not (.v 11)) (.letI (.cmp .eql (.v 14) (.v 15)) (.ite (.v 16) (.call 43 (L2.args_ 43).rel [.v 8] [] 1 0 (.call 44 (L2.args_ 44).rel [.v 8] [] 1 0 (.letI (.cmp .eql (.v 17) (.v 18)) (.ite (.v 19) (.call 43 (L2.args_ 43).rel [.v 6] [] 1 0 (.call 44 (L2.args_ 44).rel [.v 6] [] 1 0 (.letI (.cmp .eql (.v 20) (.v 21)) (.ite (.v 22) (.call 26 (L2.check_ 26).rel [.v 0, .v 1, .v 2, .v 3, .v 4, .v 5] [] 1 0 (.call 27 (L2.check_ 27).rel [.v 0, .v 1, .v 2, .v 3, .v 4, .v 5] [] 1 0 (.letI (.cmp .eql (.v 23) (.v 24)) (.ite (.v 25) (.done [] []) (.fail 180))))) (.fail 180))))) (.fail 180))))) (.fail 180))))) (.fail 180))) (.letI (.cmp .leq (.v 7) (.v 3)) (.ite (.v 13) (.letI (.cmp .eql (.v 8) (.v 10)) (.ite (.v 14) (.letI (.not (.v 9)) (.letI (.not (.v 11)) (.letI (.cmp .eql (.v 15) (.v 16)) (.ite (.v 17) (.call 43 (L2.args_ 43).rel [.v 8] [] 1 0 (.call 44 (L2.args_ 44).rel [.v 8] [] 1 0 (.letI (.cmp .eql (.v 18) (.v 19)) (.ite (.v 20) (.call 43 (L2.args_ 43).rel [.v 6] [] 1 0 (.call 44 (L2.args_ 44).rel [.v 6] [] 1 0 (.letI (.cmp .eql (.v 21) (.v 22)) (.ite (.v 23) (.call 26 (L2.check_ 26).rel [.v 0, .v 1, .v 2, .v 3, .v 4, .v 5] [] 1 0 (.call 27 (L2.check_ 27).rel [.v 0, .v 1, .v 2, .v 3, .v 4, .v 5] [] 1 0 (.letI (.cmp .eql (.v 24) (.v 25)) (.ite (.v 26) (.done [] []) (.fail 180))))) (.fail 180))))) (.fail 180))))) (.fail 180))))) (.fail 180))) (.letI (.cmp .eql (.v 8) (.v 10)) (.ite (.v 14) (.letI (.not (.v 9)) (.letI (.not (.v 11)) (.letI (.cmp .eql (.v 15) (.v 16)) (.ite (.v 17) (.call 43 (L2.args_ 43).rel [.v 8] [] 1 0 (.call 44 (L2.args_ 44).rel [.v 8] [] 1 0 (.letI (.cmp .eql (.v 18) (.v 19)) (.ite (.v 20) (.call 43 (L2.args_ 43).rel [.v 6] [] 1 0 (.call 44 (L2.args_ 44).rel [.v 6] [] 1 0 (.letI (.cmp .eql (.v 21) (.v 22)) (.ite (.v 23) (.call 26 (L2.check_ 26).rel [.v 0, .v 1, .v 2, .v 3, .v 4, .v 5] [] 1 0 (.call 27 (L2.check_ 27).rel [.v 0, .v 1, .v 2, .v 3, .v 4, .v 5] [] 1 0 (.letI (.cmp .eql (.v 24) (.v 25)) (.ite (.v 26) (.done [] []) (.fail 180))))) (.fail 180))))) (.fail 180))))) (.fail 180))))) (.fail 180)))))))))
theorem WordAll_db_tree : (((lawSpec 8 [.agg L2.ks5, .one (.i .i64), .one (.i .i64), .one (.i .i64)]).withRng 6 (3) (3)).withRng 1 (1) (3)).exe Tryz.prog (withS (L2.cfg2 Tryz.prog) [L2.kind_ 39, L2.kind_ 40, L2.check_ 26, L2.check_ 27, L2.args_ 43, L2.args_ 44, L2.within_ 56, L2.within_ 57, L2.lets_ 58, L2.lets_ 59, L2.put_ 52, L2.put_ 77, L2.get_ 53, L2.get_ 78]) [] 20 200 = WordAll_db_t := by kernel_rfl
theorem WordAll_db_vc (Q : List Int → List (List Int) → Prop) (v0 v1 v2 v3 v4 v5 v6 v7 : Int) : WordAll_db_t.dn ⟨Q, []⟩ 8 [v7, v6, v5, v4, v3, v2, v1, v0] 0 [] = ((L2.yes L2.f_messuagelaw2_begun).rel.pre [] [] ∧
((L2.yes L2.f_messuagelaw2_begun).rel.post [] [] [] [] → (L2.kind_ 39).rel.pre [v0, v1, v2, v3, v4] [] ∧
(∀ v8 : Int, ∀ v9 : Int, (L2.kind_ 39).rel.post [v0, v1, v2, v3, v4] [] [v8, v9] [] → (L2.kind_ 40).rel.pre [v0, v1, v2, v3, v4] [] ∧
(∀ v10 : Int, ∀ v11 : Int, (L2.kind_ 40).rel.post [v0, v1, v2, v3, v4] [] [v10, v11] [] → ((v7 ≤ (0 : Int)) → ((v8 = v10) → ∀ v14 : Int, v14 = b2i (v9 == 0) → ∀ v15 : Int, v15 = b2i (v11 == 0) → ((v14 = v15) → (L2.args_ 43).rel.pre [v8] [] ∧
(∀ v17 : Int, (L2.args_ 43).rel.post [v8] [] [v17] [] → (L2.args_ 44).rel.pre [v8] [] ∧
(∀ v18 : Int, (L2.args_ 44).rel.post [v8] [] [v18] [] → ((v17 = v18) → (L2.args_ 43).rel.pre [v6] [] ∧
(∀ v20 : Int, (L2.args_ 43).rel.post [v6] [] [v20] [] → (L2.args_ 44).rel.pre [v6] [] ∧
(∀ v21 : Int, (L2.args_ 44).rel.post [v6] [] [v21] [] → ((v20 = v21) → (L2.check_ 26).rel.pre [v0, v1, v2, v3, v4, v5] [] ∧
(∀ v23 : Int, (L2.check_ 26).rel.post [v0, v1, v2, v3, v4, v5] [] [v23] [] → (L2.check_ 27).rel.pre [v0, v1, v2, v3, v4, v5] [] ∧
(∀ v24 : Int, (L2.check_ 27).rel.post [v0, v1, v2, v3, v4, v5] [] [v24] [] → ((v23 = v24) → Q [] []) ∧
((v23 ≠ v24) → False)))) ∧
((v20 ≠ v21) → False)))) ∧
((v17 ≠ v18) → False)))) ∧
((v14 ≠ v15) → False)) ∧
((v8 ≠ v10) → False)) ∧
(((0 : Int) < v7) → ((v7 ≤ v3) → ((v8 = v10) → ∀ v15 : Int, v15 = b2i (v9 == 0) → ∀ v16 : Int, v16 = b2i (v11 == 0) → ((v15 = v16) → (L2.args_ 43).rel.pre [v8] [] ∧
(∀ v18 : Int, (L2.args_ 43).rel.post [v8] [] [v18] [] → (L2.args_ 44).rel.pre [v8] [] ∧
(∀ v19 : Int, (L2.args_ 44).rel.post [v8] [] [v19] [] → ((v18 = v19) → (L2.args_ 43).rel.pre [v6] [] ∧
(∀ v21 : Int, (L2.args_ 43).rel.post [v6] [] [v21] [] → (L2.args_ 44).rel.pre [v6] [] ∧
(∀ v22 : Int, (L2.args_ 44).rel.post [v6] [] [v22] [] → ((v21 = v22) → (L2.check_ 26).rel.pre [v0, v1, v2, v3, v4, v5] [] ∧
(∀ v24 : Int, (L2.check_ 26).rel.post [v0, v1, v2, v3, v4, v5] [] [v24] [] → (L2.check_ 27).rel.pre [v0, v1, v2, v3, v4, v5] [] ∧
(∀ v25 : Int, (L2.check_ 27).rel.post [v0, v1, v2, v3, v4, v5] [] [v25] [] → ((v24 = v25) → Q [] []) ∧
((v24 ≠ v25) → False)))) ∧
((v21 ≠ v22) → False)))) ∧
((v18 ≠ v19) → False)))) ∧
((v15 ≠ v16) → False)) ∧
((v8 ≠ v10) → False)) ∧
((v3 < v7) → ((v8 = v10) → ∀ v15 : Int, v15 = b2i (v9 == 0) → ∀ v16 : Int, v16 = b2i (v11 == 0) → ((v15 = v16) → (L2.args_ 43).rel.pre [v8] [] ∧
(∀ v18 : Int, (L2.args_ 43).rel.post [v8] [] [v18] [] → (L2.args_ 44).rel.pre [v8] [] ∧
(∀ v19 : Int, (L2.args_ 44).rel.post [v8] [] [v19] [] → ((v18 = v19) → (L2.args_ 43).rel.pre [v6] [] ∧
(∀ v21 : Int, (L2.args_ 43).rel.post [v6] [] [v21] [] → (L2.args_ 44).rel.pre [v6] [] ∧
(∀ v22 : Int, (L2.args_ 44).rel.post [v6] [] [v22] [] → ((v21 = v22) → (L2.check_ 26).rel.pre [v0, v1, v2, v3, v4, v5] [] ∧
(∀ v24 : Int, (L2.check_ 26).rel.post [v0, v1, v2, v3, v4, v5] [] [v24] [] → (L2.check_ 27).rel.pre [v0, v1, v2, v3, v4, v5] [] ∧
(∀ v25 : Int, (L2.check_ 27).rel.post [v0, v1, v2, v3, v4, v5] [] [v25] [] → ((v24 = v25) → Q [] []) ∧
((v24 ≠ v25) → False)))) ∧
((v21 ≠ v22) → False)))) ∧
((v18 ≠ v19) → False)))) ∧
((v15 ≠ v16) → False)) ∧
((v8 ≠ v10) → False))))))) := by kernel_rfl
set_option maxHeartbeats 4000000 in
theorem wordAll_part_db0 : (((lawSpec 8 [.agg L2.ks5, .one (.i .i64), .one (.i .i64), .one (.i .i64)]).withRng 6 (3) (3)).withRng 1 (1) (3)).Holds Tryz.prog L2.ro := FSpec.holdsV (cfg := withS (L2.cfg2 Tryz.prog) [L2.kind_ 39, L2.kind_ 40, L2.check_ 26, L2.check_ 27, L2.args_ 43, L2.args_ 44, L2.within_ 56, L2.within_ 57, L2.lets_ 58, L2.lets_ 59, L2.put_ 52, L2.put_ 77, L2.get_ 53, L2.get_ 78]) [] 20 200 (withS_ok cfg2_ok ⟨wKind_holds, rKind_holds, wCheck_holds, rCheck_holds, wArgs_holds, rArgs_holds, pWithin_holds, rWithin_holds, pLets_holds, rLets_holds, pPut_holds, rPte_holds, pGet_holds, rGet_holds, trivial⟩) mixed (t := WordAll_db_t) WordAll_db_tree (by
  show ∀ (v0 v1 v2 v3 v4 v5 v6 v7 : Int) , _
  intro v0 v1 v2 v3 v4 v5 v6 v7  hp hr hl
  replace hr : (((1) : Int) ≤ v1 ∧ v1 ≤ ((3) : Int)) ∧ (((3) : Int) ≤ v6 ∧ v6 ≤ ((3) : Int)) ∧ ((0 : Int) ≤ v0 ∧ v0 ≤ (18446744073709551615 : Int)) ∧ ((0 : Int) ≤ v1 ∧ v1 ≤ (18446744073709551615 : Int)) ∧ ((0 : Int) ≤ v2 ∧ v2 ≤ (18446744073709551615 : Int)) ∧ ((0 : Int) ≤ v3 ∧ v3 ≤ (18446744073709551615 : Int)) ∧ ((0 : Int) ≤ v4 ∧ v4 ≤ (18446744073709551615 : Int)) ∧ ((-9223372036854775808 : Int) ≤ v5 ∧ v5 ≤ (9223372036854775807 : Int)) ∧ ((-9223372036854775808 : Int) ≤ v6 ∧ v6 ≤ (9223372036854775807 : Int)) ∧ ((-9223372036854775808 : Int) ≤ v7 ∧ v7 ≤ (9223372036854775807 : Int)) ∧ True := hr
  replace hp : True := hp
  show WordAll_db_t.dn ⟨_, []⟩ 8 [v7, v6, v5, v4, v3, v2, v1, v0] 0 []
  rw [WordAll_db_vc]
  show ((L2.yes L2.f_messuagelaw2_begun).rel.pre [] [] ∧ _)
  refine ⟨trivial, fun _ => ?_⟩
  simp only [fnSpec_post, fnSpec_pre, true_and, List.cons.injEq, and_true, List.getD_cons_zero, List.getD_cons_succ, and_imp]
  intro v8 v9 e8 e9 v10 v11 e10 e11
  subst e8 e9 e10 e11
  simp only [b2i, forall_eq]
  repeat' first | refine And.intro ?_ ?_ | intro _
  all_goals first | trivial | omega | grind)

noncomputable def WordAll_dc_t : Tree := .call 25 (L2.yes L2.f_messuagelaw2_begun).rel [] [] 0 0 (.call 39 (L2.kind_ 39).rel [.v 0, .v 1, .v 2, .v 3, .v 4] [] 2 0 (.call 40 (L2.kind_ 40).rel [.v 0, .v 1, .v 2, .v 3, .v 4] [] 2 0 (.letI (.cmp .leq (.v 7) (.c 0)) (.ite (.v 12) (.letI (.cmp .eql (.v 8) (.v 10)) (.ite (.v 13) (.letI (.not (.v 9)) (.letI (.not (.v 11)) (.letI (.cmp .eql (.v 14) (.v 15)) (.ite (.v 16) (.call 43 (L2.args_ 43).rel [.v 8] [] 1 0 (.call 44 (L2.args_ 44).rel [.v 8] [] 1 0 (.letI (.cmp .eql (.v 17) (.v 18)) (.ite (.v 19) (.call 43 (L2.args_ 43).rel [.v 6] [] 1 0 (.call 44 (L2.args_ 44).rel [.v 6] [] 1 0 (.letI (.cmp .eql (.v 20) (.v 21)) (.ite (.v 22) (.call 26 (L2.check_ 26).rel [.v 0, .v 1, .v 2, .v 3, .v 4, .v 5] [] 1 0 (.call 27 (L2.check_ 27).rel [.v 0, .v 1, .v 2, .v 3, .v 4, .v 5] [] 1 0 (.letI (.cmp .eql (.v 23) (.v 24)) (.ite (.v 25) (.done [] []) (.fail 180))))) (.fail 180))))) (.fail 180))))) (.fail 180))))) (.fail 180))) (.letI (.cmp .leq (.v 7) (.v 3)) (.ite (.v 13) (.letI (.cmp .eql (.v 8) (.v 10)) (.ite (.v 14) (.letI (.not (.v 9)) (.letI (.not (.v 11)) (.letI (.cmp .eql (.v 15) (.v 16)) (.ite (.v 17) (.call 43 (L2.args_ 43).rel [.v 8] [] 1 0 (.call 44 (L2.args_ 44).rel [.v 8] [] 1 0 (.letI (.cmp .eql (.v 18) (.v 19)) (.ite (.v 20) (.call 43 (L2.args_ 43).rel [.v 6] [] 1 0 (.call 44 (L2.args_ 44).rel [.v 6] [] 1 0 (.letI (.cmp .eql (.v 21) (.v 22)) (.ite (.v 23) (.call 26 (L2.check_ 26).rel [.v 0, .v 1, .v 2, .v 3, .v 4, .v 5] [] 1 0 (.call 27 (L2.check_ 27).rel [.v 0, .v 1, .v 2, .v 3, .v 4, .v 5] [] 1 0 (.letI (.cmp .eql (.v 24) (.v 25)) (.ite (.v 26) (.done [] []) (.fail 180))))) (.fail 180))))) (.fail 180))))) (.fail 180))))) (.fail 180))) (.letI (.cmp .eql (.v 8) (.v 10)) (.ite (.v 14) (.letI (.not (.v 9)) (.letI (.not (.v 11)) (.letI (.cmp .eql (.v 15) (.v 16)) (.ite (.v 17) (.call 43 (L2.args_ 43).rel [.v 8] [] 1 0 (.call 44 (L2.args_ 44).rel [.v 8] [] 1 0 (.letI (.cmp .eql (.v 18) (.v 19)) (.ite (.v 20) (.call 43 (L2.args_ 43).rel [.v 6] [] 1 0 (.call 44 (L2.args_ 44).rel [.v 6] [] 1 0 (.letI (.cmp .eql (.v 21) (.v 22)) (.ite (.v 23) (.call 26 (L2.check_ 26).rel [.v 0, .v 1, .v 2, .v 3, .v 4, .v 5] [] 1 0 (.call 27 (L2.check_ 27).rel [.v 0, .v 1, .v 2, .v 3, .v 4, .v 5] [] 1 0 (.letI (.cmp .eql (.v 24) (.v 25)) (.ite (.v 26) (.done [] []) (.fail 180))))) (.fail 180))))) (.fail 180))))) (.fail 180))))) (.fail 180)))))))))
theorem WordAll_dc_tree : (((lawSpec 8 [.agg L2.ks5, .one (.i .i64), .one (.i .i64), .one (.i .i64)]).withRng 6 (3) (3)).withRng 1 (4) (18446744073709551615)).exe Tryz.prog (withS (L2.cfg2 Tryz.prog) [L2.kind_ 39, L2.kind_ 40, L2.check_ 26, L2.check_ 27, L2.args_ 43, L2.args_ 44, L2.within_ 56, L2.within_ 57, L2.lets_ 58, L2.lets_ 59, L2.put_ 52, L2.put_ 77, L2.get_ 53, L2.get_ 78]) [] 20 200 = WordAll_dc_t := by kernel_rfl
theorem WordAll_dc_vc (Q : List Int → List (List Int) → Prop) (v0 v1 v2 v3 v4 v5 v6 v7 : Int) : WordAll_dc_t.dn ⟨Q, []⟩ 8 [v7, v6, v5, v4, v3, v2, v1, v0] 0 [] = ((L2.yes L2.f_messuagelaw2_begun).rel.pre [] [] ∧
((L2.yes L2.f_messuagelaw2_begun).rel.post [] [] [] [] → (L2.kind_ 39).rel.pre [v0, v1, v2, v3, v4] [] ∧
(∀ v8 : Int, ∀ v9 : Int, (L2.kind_ 39).rel.post [v0, v1, v2, v3, v4] [] [v8, v9] [] → (L2.kind_ 40).rel.pre [v0, v1, v2, v3, v4] [] ∧
(∀ v10 : Int, ∀ v11 : Int, (L2.kind_ 40).rel.post [v0, v1, v2, v3, v4] [] [v10, v11] [] → ((v7 ≤ (0 : Int)) → ((v8 = v10) → ∀ v14 : Int, v14 = b2i (v9 == 0) → ∀ v15 : Int, v15 = b2i (v11 == 0) → ((v14 = v15) → (L2.args_ 43).rel.pre [v8] [] ∧
(∀ v17 : Int, (L2.args_ 43).rel.post [v8] [] [v17] [] → (L2.args_ 44).rel.pre [v8] [] ∧
(∀ v18 : Int, (L2.args_ 44).rel.post [v8] [] [v18] [] → ((v17 = v18) → (L2.args_ 43).rel.pre [v6] [] ∧
(∀ v20 : Int, (L2.args_ 43).rel.post [v6] [] [v20] [] → (L2.args_ 44).rel.pre [v6] [] ∧
(∀ v21 : Int, (L2.args_ 44).rel.post [v6] [] [v21] [] → ((v20 = v21) → (L2.check_ 26).rel.pre [v0, v1, v2, v3, v4, v5] [] ∧
(∀ v23 : Int, (L2.check_ 26).rel.post [v0, v1, v2, v3, v4, v5] [] [v23] [] → (L2.check_ 27).rel.pre [v0, v1, v2, v3, v4, v5] [] ∧
(∀ v24 : Int, (L2.check_ 27).rel.post [v0, v1, v2, v3, v4, v5] [] [v24] [] → ((v23 = v24) → Q [] []) ∧
((v23 ≠ v24) → False)))) ∧
((v20 ≠ v21) → False)))) ∧
((v17 ≠ v18) → False)))) ∧
((v14 ≠ v15) → False)) ∧
((v8 ≠ v10) → False)) ∧
(((0 : Int) < v7) → ((v7 ≤ v3) → ((v8 = v10) → ∀ v15 : Int, v15 = b2i (v9 == 0) → ∀ v16 : Int, v16 = b2i (v11 == 0) → ((v15 = v16) → (L2.args_ 43).rel.pre [v8] [] ∧
(∀ v18 : Int, (L2.args_ 43).rel.post [v8] [] [v18] [] → (L2.args_ 44).rel.pre [v8] [] ∧
(∀ v19 : Int, (L2.args_ 44).rel.post [v8] [] [v19] [] → ((v18 = v19) → (L2.args_ 43).rel.pre [v6] [] ∧
(∀ v21 : Int, (L2.args_ 43).rel.post [v6] [] [v21] [] → (L2.args_ 44).rel.pre [v6] [] ∧
(∀ v22 : Int, (L2.args_ 44).rel.post [v6] [] [v22] [] → ((v21 = v22) → (L2.check_ 26).rel.pre [v0, v1, v2, v3, v4, v5] [] ∧
(∀ v24 : Int, (L2.check_ 26).rel.post [v0, v1, v2, v3, v4, v5] [] [v24] [] → (L2.check_ 27).rel.pre [v0, v1, v2, v3, v4, v5] [] ∧
(∀ v25 : Int, (L2.check_ 27).rel.post [v0, v1, v2, v3, v4, v5] [] [v25] [] → ((v24 = v25) → Q [] []) ∧
((v24 ≠ v25) → False)))) ∧
((v21 ≠ v22) → False)))) ∧
((v18 ≠ v19) → False)))) ∧
((v15 ≠ v16) → False)) ∧
((v8 ≠ v10) → False)) ∧
((v3 < v7) → ((v8 = v10) → ∀ v15 : Int, v15 = b2i (v9 == 0) → ∀ v16 : Int, v16 = b2i (v11 == 0) → ((v15 = v16) → (L2.args_ 43).rel.pre [v8] [] ∧
(∀ v18 : Int, (L2.args_ 43).rel.post [v8] [] [v18] [] → (L2.args_ 44).rel.pre [v8] [] ∧
(∀ v19 : Int, (L2.args_ 44).rel.post [v8] [] [v19] [] → ((v18 = v19) → (L2.args_ 43).rel.pre [v6] [] ∧
(∀ v21 : Int, (L2.args_ 43).rel.post [v6] [] [v21] [] → (L2.args_ 44).rel.pre [v6] [] ∧
(∀ v22 : Int, (L2.args_ 44).rel.post [v6] [] [v22] [] → ((v21 = v22) → (L2.check_ 26).rel.pre [v0, v1, v2, v3, v4, v5] [] ∧
(∀ v24 : Int, (L2.check_ 26).rel.post [v0, v1, v2, v3, v4, v5] [] [v24] [] → (L2.check_ 27).rel.pre [v0, v1, v2, v3, v4, v5] [] ∧
(∀ v25 : Int, (L2.check_ 27).rel.post [v0, v1, v2, v3, v4, v5] [] [v25] [] → ((v24 = v25) → Q [] []) ∧
((v24 ≠ v25) → False)))) ∧
((v21 ≠ v22) → False)))) ∧
((v18 ≠ v19) → False)))) ∧
((v15 ≠ v16) → False)) ∧
((v8 ≠ v10) → False))))))) := by kernel_rfl
set_option maxHeartbeats 4000000 in
theorem wordAll_part_dc0 : (((lawSpec 8 [.agg L2.ks5, .one (.i .i64), .one (.i .i64), .one (.i .i64)]).withRng 6 (3) (3)).withRng 1 (4) (18446744073709551615)).Holds Tryz.prog L2.ro := FSpec.holdsV (cfg := withS (L2.cfg2 Tryz.prog) [L2.kind_ 39, L2.kind_ 40, L2.check_ 26, L2.check_ 27, L2.args_ 43, L2.args_ 44, L2.within_ 56, L2.within_ 57, L2.lets_ 58, L2.lets_ 59, L2.put_ 52, L2.put_ 77, L2.get_ 53, L2.get_ 78]) [] 20 200 (withS_ok cfg2_ok ⟨wKind_holds, rKind_holds, wCheck_holds, rCheck_holds, wArgs_holds, rArgs_holds, pWithin_holds, rWithin_holds, pLets_holds, rLets_holds, pPut_holds, rPte_holds, pGet_holds, rGet_holds, trivial⟩) mixed (t := WordAll_dc_t) WordAll_dc_tree (by
  show ∀ (v0 v1 v2 v3 v4 v5 v6 v7 : Int) , _
  intro v0 v1 v2 v3 v4 v5 v6 v7  hp hr hl
  replace hr : (((4) : Int) ≤ v1 ∧ v1 ≤ ((18446744073709551615) : Int)) ∧ (((3) : Int) ≤ v6 ∧ v6 ≤ ((3) : Int)) ∧ ((0 : Int) ≤ v0 ∧ v0 ≤ (18446744073709551615 : Int)) ∧ ((0 : Int) ≤ v1 ∧ v1 ≤ (18446744073709551615 : Int)) ∧ ((0 : Int) ≤ v2 ∧ v2 ≤ (18446744073709551615 : Int)) ∧ ((0 : Int) ≤ v3 ∧ v3 ≤ (18446744073709551615 : Int)) ∧ ((0 : Int) ≤ v4 ∧ v4 ≤ (18446744073709551615 : Int)) ∧ ((-9223372036854775808 : Int) ≤ v5 ∧ v5 ≤ (9223372036854775807 : Int)) ∧ ((-9223372036854775808 : Int) ≤ v6 ∧ v6 ≤ (9223372036854775807 : Int)) ∧ ((-9223372036854775808 : Int) ≤ v7 ∧ v7 ≤ (9223372036854775807 : Int)) ∧ True := hr
  replace hp : True := hp
  show WordAll_dc_t.dn ⟨_, []⟩ 8 [v7, v6, v5, v4, v3, v2, v1, v0] 0 []
  rw [WordAll_dc_vc]
  show ((L2.yes L2.f_messuagelaw2_begun).rel.pre [] [] ∧ _)
  refine ⟨trivial, fun _ => ?_⟩
  simp only [fnSpec_post, fnSpec_pre, true_and, List.cons.injEq, and_true, List.getD_cons_zero, List.getD_cons_succ, and_imp]
  intro v8 v9 e8 e9 v10 v11 e10 e11
  subst e8 e9 e10 e11
  simp only [b2i, forall_eq]
  repeat' first | refine And.intro ?_ ?_ | intro _
  all_goals first | trivial | omega | grind)

noncomputable def WordAll_ea_t : Tree := .call 25 (L2.yes L2.f_messuagelaw2_begun).rel [] [] 0 0 (.call 39 (L2.kind_ 39).rel [.v 0, .v 1, .v 2, .v 3, .v 4] [] 2 0 (.call 40 (L2.kind_ 40).rel [.v 0, .v 1, .v 2, .v 3, .v 4] [] 2 0 (.letI (.cmp .leq (.v 7) (.c 0)) (.ite (.v 12) (.letI (.cmp .eql (.v 8) (.v 10)) (.ite (.v 13) (.letI (.not (.v 9)) (.letI (.not (.v 11)) (.letI (.cmp .eql (.v 14) (.v 15)) (.ite (.v 16) (.call 43 (L2.args_ 43).rel [.v 8] [] 1 0 (.call 44 (L2.args_ 44).rel [.v 8] [] 1 0 (.letI (.cmp .eql (.v 17) (.v 18)) (.ite (.v 19) (.call 43 (L2.args_ 43).rel [.v 6] [] 1 0 (.call 44 (L2.args_ 44).rel [.v 6] [] 1 0 (.letI (.cmp .eql (.v 20) (.v 21)) (.ite (.v 22) (.call 26 (L2.check_ 26).rel [.v 0, .v 1, .v 2, .v 3, .v 4, .v 5] [] 1 0 (.call 27 (L2.check_ 27).rel [.v 0, .v 1, .v 2, .v 3, .v 4, .v 5] [] 1 0 (.letI (.cmp .eql (.v 23) (.v 24)) (.ite (.v 25) (.done [] []) (.fail 180))))) (.fail 180))))) (.fail 180))))) (.fail 180))))) (.fail 180))) (.letI (.cmp .leq (.v 7) (.v 4)) (.ite (.v 13) (.letI (.cmp .eql (.v 8) (.v 10)) (.ite (.v 14) (.letI (.not (.v 9)) (.letI (.not (.v 11)) (.letI (.cmp .eql (.v 15) (.v 16)) (.ite (.v 17) (.call 43 (L2.args_ 43).rel [.v 8] [] 1 0 (.call 44 (L2.args_ 44).rel [.v 8] [] 1 0 (.letI (.cmp .eql (.v 18) (.v 19)) (.ite (.v 20) (.call 43 (L2.args_ 43).rel [.v 6] [] 1 0 (.call 44 (L2.args_ 44).rel [.v 6] [] 1 0 (.letI (.cmp .eql (.v 21) (.v 22)) (.ite (.v 23) (.call 26 (L2.check_ 26).rel [.v 0, .v 1, .v 2, .v 3, .v 4, .v 5] [] 1 0 (.call 27 (L2.check_ 27).rel [.v 0, .v 1, .v 2, .v 3, .v 4, .v 5] [] 1 0 (.letI (.cmp .eql (.v 24) (.v 25)) (.ite (.v 26) (.done [] []) (.fail 180))))) (.fail 180))))) (.fail 180))))) (.fail 180))))) (.fail 180))) (.letI (.cmp .eql (.v 8) (.v 10)) (.ite (.v 14) (.letI (.not (.v 9)) (.letI (.not (.v 11)) (.letI (.cmp .eql (.v 15) (.v 16)) (.ite (.v 17) (.call 43 (L2.args_ 43).rel [.v 8] [] 1 0 (.call 44 (L2.args_ 44).rel [.v 8] [] 1 0 (.letI (.cmp .eql (.v 18) (.v 19)) (.ite (.v 20) (.call 43 (L2.args_ 43).rel [.v 6] [] 1 0 (.call 44 (L2.args_ 44).rel [.v 6] [] 1 0 (.letI (.cmp .eql (.v 21) (.v 22)) (.ite (.v 23) (.call 26 (L2.check_ 26).rel [.v 0, .v 1, .v 2, .v 3, .v 4, .v 5] [] 1 0 (.call 27 (L2.check_ 27).rel [.v 0, .v 1, .v 2, .v 3, .v 4, .v 5] [] 1 0 (.letI (.cmp .eql (.v 24) (.v 25)) (.ite (.v 26) (.done [] []) (.fail 180))))) (.fail 180))))) (.fail 180))))) (.fail 180))))) (.fail 180)))))))))
theorem WordAll_ea_tree : (((lawSpec 8 [.agg L2.ks5, .one (.i .i64), .one (.i .i64), .one (.i .i64)]).withRng 6 (4) (4)).withRng 1 (0) (0)).exe Tryz.prog (withS (L2.cfg2 Tryz.prog) [L2.kind_ 39, L2.kind_ 40, L2.check_ 26, L2.check_ 27, L2.args_ 43, L2.args_ 44, L2.within_ 56, L2.within_ 57, L2.lets_ 58, L2.lets_ 59, L2.put_ 52, L2.put_ 77, L2.get_ 53, L2.get_ 78]) [] 20 200 = WordAll_ea_t := by kernel_rfl
theorem WordAll_ea_vc (Q : List Int → List (List Int) → Prop) (v0 v1 v2 v3 v4 v5 v6 v7 : Int) : WordAll_ea_t.dn ⟨Q, []⟩ 8 [v7, v6, v5, v4, v3, v2, v1, v0] 0 [] = ((L2.yes L2.f_messuagelaw2_begun).rel.pre [] [] ∧
((L2.yes L2.f_messuagelaw2_begun).rel.post [] [] [] [] → (L2.kind_ 39).rel.pre [v0, v1, v2, v3, v4] [] ∧
(∀ v8 : Int, ∀ v9 : Int, (L2.kind_ 39).rel.post [v0, v1, v2, v3, v4] [] [v8, v9] [] → (L2.kind_ 40).rel.pre [v0, v1, v2, v3, v4] [] ∧
(∀ v10 : Int, ∀ v11 : Int, (L2.kind_ 40).rel.post [v0, v1, v2, v3, v4] [] [v10, v11] [] → ((v7 ≤ (0 : Int)) → ((v8 = v10) → ∀ v14 : Int, v14 = b2i (v9 == 0) → ∀ v15 : Int, v15 = b2i (v11 == 0) → ((v14 = v15) → (L2.args_ 43).rel.pre [v8] [] ∧
(∀ v17 : Int, (L2.args_ 43).rel.post [v8] [] [v17] [] → (L2.args_ 44).rel.pre [v8] [] ∧
(∀ v18 : Int, (L2.args_ 44).rel.post [v8] [] [v18] [] → ((v17 = v18) → (L2.args_ 43).rel.pre [v6] [] ∧
(∀ v20 : Int, (L2.args_ 43).rel.post [v6] [] [v20] [] → (L2.args_ 44).rel.pre [v6] [] ∧
(∀ v21 : Int, (L2.args_ 44).rel.post [v6] [] [v21] [] → ((v20 = v21) → (L2.check_ 26).rel.pre [v0, v1, v2, v3, v4, v5] [] ∧
(∀ v23 : Int, (L2.check_ 26).rel.post [v0, v1, v2, v3, v4, v5] [] [v23] [] → (L2.check_ 27).rel.pre [v0, v1, v2, v3, v4, v5] [] ∧
(∀ v24 : Int, (L2.check_ 27).rel.post [v0, v1, v2, v3, v4, v5] [] [v24] [] → ((v23 = v24) → Q [] []) ∧
((v23 ≠ v24) → False)))) ∧
((v20 ≠ v21) → False)))) ∧
((v17 ≠ v18) → False)))) ∧
((v14 ≠ v15) → False)) ∧
((v8 ≠ v10) → False)) ∧
(((0 : Int) < v7) → ((v7 ≤ v4) → ((v8 = v10) → ∀ v15 : Int, v15 = b2i (v9 == 0) → ∀ v16 : Int, v16 = b2i (v11 == 0) → ((v15 = v16) → (L2.args_ 43).rel.pre [v8] [] ∧
(∀ v18 : Int, (L2.args_ 43).rel.post [v8] [] [v18] [] → (L2.args_ 44).rel.pre [v8] [] ∧
(∀ v19 : Int, (L2.args_ 44).rel.post [v8] [] [v19] [] → ((v18 = v19) → (L2.args_ 43).rel.pre [v6] [] ∧
(∀ v21 : Int, (L2.args_ 43).rel.post [v6] [] [v21] [] → (L2.args_ 44).rel.pre [v6] [] ∧
(∀ v22 : Int, (L2.args_ 44).rel.post [v6] [] [v22] [] → ((v21 = v22) → (L2.check_ 26).rel.pre [v0, v1, v2, v3, v4, v5] [] ∧
(∀ v24 : Int, (L2.check_ 26).rel.post [v0, v1, v2, v3, v4, v5] [] [v24] [] → (L2.check_ 27).rel.pre [v0, v1, v2, v3, v4, v5] [] ∧
(∀ v25 : Int, (L2.check_ 27).rel.post [v0, v1, v2, v3, v4, v5] [] [v25] [] → ((v24 = v25) → Q [] []) ∧
((v24 ≠ v25) → False)))) ∧
((v21 ≠ v22) → False)))) ∧
((v18 ≠ v19) → False)))) ∧
((v15 ≠ v16) → False)) ∧
((v8 ≠ v10) → False)) ∧
((v4 < v7) → ((v8 = v10) → ∀ v15 : Int, v15 = b2i (v9 == 0) → ∀ v16 : Int, v16 = b2i (v11 == 0) → ((v15 = v16) → (L2.args_ 43).rel.pre [v8] [] ∧
(∀ v18 : Int, (L2.args_ 43).rel.post [v8] [] [v18] [] → (L2.args_ 44).rel.pre [v8] [] ∧
(∀ v19 : Int, (L2.args_ 44).rel.post [v8] [] [v19] [] → ((v18 = v19) → (L2.args_ 43).rel.pre [v6] [] ∧
(∀ v21 : Int, (L2.args_ 43).rel.post [v6] [] [v21] [] → (L2.args_ 44).rel.pre [v6] [] ∧
(∀ v22 : Int, (L2.args_ 44).rel.post [v6] [] [v22] [] → ((v21 = v22) → (L2.check_ 26).rel.pre [v0, v1, v2, v3, v4, v5] [] ∧
(∀ v24 : Int, (L2.check_ 26).rel.post [v0, v1, v2, v3, v4, v5] [] [v24] [] → (L2.check_ 27).rel.pre [v0, v1, v2, v3, v4, v5] [] ∧
(∀ v25 : Int, (L2.check_ 27).rel.post [v0, v1, v2, v3, v4, v5] [] [v25] [] → ((v24 = v25) → Q [] []) ∧
((v24 ≠ v25) → False)))) ∧
((v21 ≠ v22) → False)))) ∧
((v18 ≠ v19) → False)))) ∧
((v15 ≠ v16) → False)) ∧
((v8 ≠ v10) → False))))))) := by kernel_rfl
set_option maxHeartbeats 4000000 in
theorem wordAll_part_ea0 : (((lawSpec 8 [.agg L2.ks5, .one (.i .i64), .one (.i .i64), .one (.i .i64)]).withRng 6 (4) (4)).withRng 1 (0) (0)).Holds Tryz.prog L2.ro := FSpec.holdsV (cfg := withS (L2.cfg2 Tryz.prog) [L2.kind_ 39, L2.kind_ 40, L2.check_ 26, L2.check_ 27, L2.args_ 43, L2.args_ 44, L2.within_ 56, L2.within_ 57, L2.lets_ 58, L2.lets_ 59, L2.put_ 52, L2.put_ 77, L2.get_ 53, L2.get_ 78]) [] 20 200 (withS_ok cfg2_ok ⟨wKind_holds, rKind_holds, wCheck_holds, rCheck_holds, wArgs_holds, rArgs_holds, pWithin_holds, rWithin_holds, pLets_holds, rLets_holds, pPut_holds, rPte_holds, pGet_holds, rGet_holds, trivial⟩) mixed (t := WordAll_ea_t) WordAll_ea_tree (by
  show ∀ (v0 v1 v2 v3 v4 v5 v6 v7 : Int) , _
  intro v0 v1 v2 v3 v4 v5 v6 v7  hp hr hl
  replace hr : (((0) : Int) ≤ v1 ∧ v1 ≤ ((0) : Int)) ∧ (((4) : Int) ≤ v6 ∧ v6 ≤ ((4) : Int)) ∧ ((0 : Int) ≤ v0 ∧ v0 ≤ (18446744073709551615 : Int)) ∧ ((0 : Int) ≤ v1 ∧ v1 ≤ (18446744073709551615 : Int)) ∧ ((0 : Int) ≤ v2 ∧ v2 ≤ (18446744073709551615 : Int)) ∧ ((0 : Int) ≤ v3 ∧ v3 ≤ (18446744073709551615 : Int)) ∧ ((0 : Int) ≤ v4 ∧ v4 ≤ (18446744073709551615 : Int)) ∧ ((-9223372036854775808 : Int) ≤ v5 ∧ v5 ≤ (9223372036854775807 : Int)) ∧ ((-9223372036854775808 : Int) ≤ v6 ∧ v6 ≤ (9223372036854775807 : Int)) ∧ ((-9223372036854775808 : Int) ≤ v7 ∧ v7 ≤ (9223372036854775807 : Int)) ∧ True := hr
  replace hp : True := hp
  show WordAll_ea_t.dn ⟨_, []⟩ 8 [v7, v6, v5, v4, v3, v2, v1, v0] 0 []
  rw [WordAll_ea_vc]
  show ((L2.yes L2.f_messuagelaw2_begun).rel.pre [] [] ∧ _)
  refine ⟨trivial, fun _ => ?_⟩
  simp only [fnSpec_post, fnSpec_pre, true_and, List.cons.injEq, and_true, List.getD_cons_zero, List.getD_cons_succ, and_imp]
  intro v8 v9 e8 e9 v10 v11 e10 e11
  subst e8 e9 e10 e11
  simp only [b2i, forall_eq]
  repeat' first | refine And.intro ?_ ?_ | intro _
  all_goals first | trivial | omega | grind)

noncomputable def WordAll_eb_t : Tree := .call 25 (L2.yes L2.f_messuagelaw2_begun).rel [] [] 0 0 (.call 39 (L2.kind_ 39).rel [.v 0, .v 1, .v 2, .v 3, .v 4] [] 2 0 (.call 40 (L2.kind_ 40).rel [.v 0, .v 1, .v 2, .v 3, .v 4] [] 2 0 (.letI (.cmp .leq (.v 7) (.c 0)) (.ite (.v 12) (.letI (.cmp .eql (.v 8) (.v 10)) (.ite (.v 13) (.letI (.not (.v 9)) (.letI (.not (.v 11)) (.letI (.cmp .eql (.v 14) (.v 15)) (.ite (.v 16) (.call 43 (L2.args_ 43).rel [.v 8] [] 1 0 (.call 44 (L2.args_ 44).rel [.v 8] [] 1 0 (.letI (.cmp .eql (.v 17) (.v 18)) (.ite (.v 19) (.call 43 (L2.args_ 43).rel [.v 6] [] 1 0 (.call 44 (L2.args_ 44).rel [.v 6] [] 1 0 (.letI (.cmp .eql (.v 20) (.v 21)) (.ite (.v 22) (.call 26 (L2.check_ 26).rel [.v 0, .v 1, .v 2, .v 3, .v 4, .v 5] [] 1 0 (.call 27 (L2.check_ 27).rel [.v 0, .v 1, .v 2, .v 3, .v 4, .v 5] [] 1 0 (.letI (.cmp .eql (.v 23) (.v 24)) (.ite (.v 25) (.done [] []) (.fail 180))))) (.fail 180))))) (.fail 180))))) (.fail 180))))) (.fail 180))) (.letI (.cmp .leq (.v 7) (.v 4)) (.ite (.v 13) (.letI (.cmp .eql (.v 8) (.v 10)) (.ite (.v 14) (.letI (.not (.v 9)) (.letI (.not (.v 11)) (.letI (.cmp .eql (.v 15) (.v 16)) (.ite (.v 17) (.call 43 (L2.args_ 43).rel [.v 8] [] 1 0 (.call 44 (L2.args_ 44).rel [.v 8] [] 1 0 (.letI (.cmp .eql (.v 18) (.v 19)) (.ite (.v 20) (.call 43 (L2.args_ 43).rel [.v 6] [] 1 0 (.call 44 (L2.args_ 44).rel [.v 6] [] 1 0 (.letI (.cmp .eql (.v 21) (.v 22)) (.ite (.v 23) (.call 26 (L2.check_ 26).rel [.v 0, .v 1, .v 2, .v 3, .v 4, .v 5] [] 1 0 (.call 27 (L2.check_ 27).rel [.v 0, .v 1, .v 2, .v 3, .v 4, .v 5] [] 1 0 (.letI (.cmp .eql (.v 24) (.v 25)) (.ite (.v 26) (.done [] []) (.fail 180))))) (.fail 180))))) (.fail 180))))) (.fail 180))))) (.fail 180))) (.letI (.cmp .eql (.v 8) (.v 10)) (.ite (.v 14) (.letI (.not (.v 9)) (.letI (.not (.v 11)) (.letI (.cmp .eql (.v 15) (.v 16)) (.ite (.v 17) (.call 43 (L2.args_ 43).rel [.v 8] [] 1 0 (.call 44 (L2.args_ 44).rel [.v 8] [] 1 0 (.letI (.cmp .eql (.v 18) (.v 19)) (.ite (.v 20) (.call 43 (L2.args_ 43).rel [.v 6] [] 1 0 (.call 44 (L2.args_ 44).rel [.v 6] [] 1 0 (.letI (.cmp .eql (.v 21) (.v 22)) (.ite (.v 23) (.call 26 (L2.check_ 26).rel [.v 0, .v 1, .v 2, .v 3, .v 4, .v 5] [] 1 0 (.call 27 (L2.check_ 27).rel [.v 0, .v 1, .v 2, .v 3, .v 4, .v 5] [] 1 0 (.letI (.cmp .eql (.v 24) (.v 25)) (.ite (.v 26) (.done [] []) (.fail 180))))) (.fail 180))))) (.fail 180))))) (.fail 180))))) (.fail 180)))))))))
theorem WordAll_eb_tree : (((lawSpec 8 [.agg L2.ks5, .one (.i .i64), .one (.i .i64), .one (.i .i64)]).withRng 6 (4) (4)).withRng 1 (1) (3)).exe Tryz.prog (withS (L2.cfg2 Tryz.prog) [L2.kind_ 39, L2.kind_ 40, L2.check_ 26, L2.check_ 27, L2.args_ 43, L2.args_ 44, L2.within_ 56, L2.within_ 57, L2.lets_ 58, L2.lets_ 59, L2.put_ 52, L2.put_ 77, L2.get_ 53, L2.get_ 78]) [] 20 200 = WordAll_eb_t := by kernel_rfl
theorem WordAll_eb_vc (Q : List Int → List (List Int) → Prop) (v0 v1 v2 v3 v4 v5 v6 v7 : Int) : WordAll_eb_t.dn ⟨Q, []⟩ 8 [v7, v6, v5, v4, v3, v2, v1, v0] 0 [] = ((L2.yes L2.f_messuagelaw2_begun).rel.pre [] [] ∧
((L2.yes L2.f_messuagelaw2_begun).rel.post [] [] [] [] → (L2.kind_ 39).rel.pre [v0, v1, v2, v3, v4] [] ∧
(∀ v8 : Int, ∀ v9 : Int, (L2.kind_ 39).rel.post [v0, v1, v2, v3, v4] [] [v8, v9] [] → (L2.kind_ 40).rel.pre [v0, v1, v2, v3, v4] [] ∧
(∀ v10 : Int, ∀ v11 : Int, (L2.kind_ 40).rel.post [v0, v1, v2, v3, v4] [] [v10, v11] [] → ((v7 ≤ (0 : Int)) → ((v8 = v10) → ∀ v14 : Int, v14 = b2i (v9 == 0) → ∀ v15 : Int, v15 = b2i (v11 == 0) → ((v14 = v15) → (L2.args_ 43).rel.pre [v8] [] ∧
(∀ v17 : Int, (L2.args_ 43).rel.post [v8] [] [v17] [] → (L2.args_ 44).rel.pre [v8] [] ∧
(∀ v18 : Int, (L2.args_ 44).rel.post [v8] [] [v18] [] → ((v17 = v18) → (L2.args_ 43).rel.pre [v6] [] ∧
(∀ v20 : Int, (L2.args_ 43).rel.post [v6] [] [v20] [] → (L2.args_ 44).rel.pre [v6] [] ∧
(∀ v21 : Int, (L2.args_ 44).rel.post [v6] [] [v21] [] → ((v20 = v21) → (L2.check_ 26).rel.pre [v0, v1, v2, v3, v4, v5] [] ∧
(∀ v23 : Int, (L2.check_ 26).rel.post [v0, v1, v2, v3, v4, v5] [] [v23] [] → (L2.check_ 27).rel.pre [v0, v1, v2, v3, v4, v5] [] ∧
(∀ v24 : Int, (L2.check_ 27).rel.post [v0, v1, v2, v3, v4, v5] [] [v24] [] → ((v23 = v24) → Q [] []) ∧
((v23 ≠ v24) → False)))) ∧
((v20 ≠ v21) → False)))) ∧
((v17 ≠ v18) → False)))) ∧
((v14 ≠ v15) → False)) ∧
((v8 ≠ v10) → False)) ∧
(((0 : Int) < v7) → ((v7 ≤ v4) → ((v8 = v10) → ∀ v15 : Int, v15 = b2i (v9 == 0) → ∀ v16 : Int, v16 = b2i (v11 == 0) → ((v15 = v16) → (L2.args_ 43).rel.pre [v8] [] ∧
(∀ v18 : Int, (L2.args_ 43).rel.post [v8] [] [v18] [] → (L2.args_ 44).rel.pre [v8] [] ∧
(∀ v19 : Int, (L2.args_ 44).rel.post [v8] [] [v19] [] → ((v18 = v19) → (L2.args_ 43).rel.pre [v6] [] ∧
(∀ v21 : Int, (L2.args_ 43).rel.post [v6] [] [v21] [] → (L2.args_ 44).rel.pre [v6] [] ∧
(∀ v22 : Int, (L2.args_ 44).rel.post [v6] [] [v22] [] → ((v21 = v22) → (L2.check_ 26).rel.pre [v0, v1, v2, v3, v4, v5] [] ∧
(∀ v24 : Int, (L2.check_ 26).rel.post [v0, v1, v2, v3, v4, v5] [] [v24] [] → (L2.check_ 27).rel.pre [v0, v1, v2, v3, v4, v5] [] ∧
(∀ v25 : Int, (L2.check_ 27).rel.post [v0, v1, v2, v3, v4, v5] [] [v25] [] → ((v24 = v25) → Q [] []) ∧
((v24 ≠ v25) → False)))) ∧
((v21 ≠ v22) → False)))) ∧
((v18 ≠ v19) → False)))) ∧
((v15 ≠ v16) → False)) ∧
((v8 ≠ v10) → False)) ∧
((v4 < v7) → ((v8 = v10) → ∀ v15 : Int, v15 = b2i (v9 == 0) → ∀ v16 : Int, v16 = b2i (v11 == 0) → ((v15 = v16) → (L2.args_ 43).rel.pre [v8] [] ∧
(∀ v18 : Int, (L2.args_ 43).rel.post [v8] [] [v18] [] → (L2.args_ 44).rel.pre [v8] [] ∧
(∀ v19 : Int, (L2.args_ 44).rel.post [v8] [] [v19] [] → ((v18 = v19) → (L2.args_ 43).rel.pre [v6] [] ∧
(∀ v21 : Int, (L2.args_ 43).rel.post [v6] [] [v21] [] → (L2.args_ 44).rel.pre [v6] [] ∧
(∀ v22 : Int, (L2.args_ 44).rel.post [v6] [] [v22] [] → ((v21 = v22) → (L2.check_ 26).rel.pre [v0, v1, v2, v3, v4, v5] [] ∧
(∀ v24 : Int, (L2.check_ 26).rel.post [v0, v1, v2, v3, v4, v5] [] [v24] [] → (L2.check_ 27).rel.pre [v0, v1, v2, v3, v4, v5] [] ∧
(∀ v25 : Int, (L2.check_ 27).rel.post [v0, v1, v2, v3, v4, v5] [] [v25] [] → ((v24 = v25) → Q [] []) ∧
((v24 ≠ v25) → False)))) ∧
((v21 ≠ v22) → False)))) ∧
((v18 ≠ v19) → False)))) ∧
((v15 ≠ v16) → False)) ∧
((v8 ≠ v10) → False))))))) := by kernel_rfl
set_option maxHeartbeats 4000000 in
theorem wordAll_part_eb0 : (((lawSpec 8 [.agg L2.ks5, .one (.i .i64), .one (.i .i64), .one (.i .i64)]).withRng 6 (4) (4)).withRng 1 (1) (3)).Holds Tryz.prog L2.ro := FSpec.holdsV (cfg := withS (L2.cfg2 Tryz.prog) [L2.kind_ 39, L2.kind_ 40, L2.check_ 26, L2.check_ 27, L2.args_ 43, L2.args_ 44, L2.within_ 56, L2.within_ 57, L2.lets_ 58, L2.lets_ 59, L2.put_ 52, L2.put_ 77, L2.get_ 53, L2.get_ 78]) [] 20 200 (withS_ok cfg2_ok ⟨wKind_holds, rKind_holds, wCheck_holds, rCheck_holds, wArgs_holds, rArgs_holds, pWithin_holds, rWithin_holds, pLets_holds, rLets_holds, pPut_holds, rPte_holds, pGet_holds, rGet_holds, trivial⟩) mixed (t := WordAll_eb_t) WordAll_eb_tree (by
  show ∀ (v0 v1 v2 v3 v4 v5 v6 v7 : Int) , _
  intro v0 v1 v2 v3 v4 v5 v6 v7  hp hr hl
  replace hr : (((1) : Int) ≤ v1 ∧ v1 ≤ ((3) : Int)) ∧ (((4) : Int) ≤ v6 ∧ v6 ≤ ((4) : Int)) ∧ ((0 : Int) ≤ v0 ∧ v0 ≤ (18446744073709551615 : Int)) ∧ ((0 : Int) ≤ v1 ∧ v1 ≤ (18446744073709551615 : Int)) ∧ ((0 : Int) ≤ v2 ∧ v2 ≤ (18446744073709551615 : Int)) ∧ ((0 : Int) ≤ v3 ∧ v3 ≤ (18446744073709551615 : Int)) ∧ ((0 : Int) ≤ v4 ∧ v4 ≤ (18446744073709551615 : Int)) ∧ ((-9223372036854775808 : Int) ≤ v5 ∧ v5 ≤ (9223372036854775807 : Int)) ∧ ((-9223372036854775808 : Int) ≤ v6 ∧ v6 ≤ (9223372036854775807 : Int)) ∧ ((-9223372036854775808 : Int) ≤ v7 ∧ v7 ≤ (9223372036854775807 : Int)) ∧ True := hr
  replace hp : True := hp
  show WordAll_eb_t.dn ⟨_, []⟩ 8 [v7, v6, v5, v4, v3, v2, v1, v0] 0 []
  rw [WordAll_eb_vc]
  show ((L2.yes L2.f_messuagelaw2_begun).rel.pre [] [] ∧ _)
  refine ⟨trivial, fun _ => ?_⟩
  simp only [fnSpec_post, fnSpec_pre, true_and, List.cons.injEq, and_true, List.getD_cons_zero, List.getD_cons_succ, and_imp]
  intro v8 v9 e8 e9 v10 v11 e10 e11
  subst e8 e9 e10 e11
  simp only [b2i, forall_eq]
  repeat' first | refine And.intro ?_ ?_ | intro _
  all_goals first | trivial | omega | grind)

noncomputable def WordAll_ec_t : Tree := .call 25 (L2.yes L2.f_messuagelaw2_begun).rel [] [] 0 0 (.call 39 (L2.kind_ 39).rel [.v 0, .v 1, .v 2, .v 3, .v 4] [] 2 0 (.call 40 (L2.kind_ 40).rel [.v 0, .v 1, .v 2, .v 3, .v 4] [] 2 0 (.letI (.cmp .leq (.v 7) (.c 0)) (.ite (.v 12) (.letI (.cmp .eql (.v 8) (.v 10)) (.ite (.v 13) (.letI (.not (.v 9)) (.letI (.not (.v 11)) (.letI (.cmp .eql (.v 14) (.v 15)) (.ite (.v 16) (.call 43 (L2.args_ 43).rel [.v 8] [] 1 0 (.call 44 (L2.args_ 44).rel [.v 8] [] 1 0 (.letI (.cmp .eql (.v 17) (.v 18)) (.ite (.v 19) (.call 43 (L2.args_ 43).rel [.v 6] [] 1 0 (.call 44 (L2.args_ 44).rel [.v 6] [] 1 0 (.letI (.cmp .eql (.v 20) (.v 21)) (.ite (.v 22) (.call 26 (L2.check_ 26).rel [.v 0, .v 1, .v 2, .v 3, .v 4, .v 5] [] 1 0 (.call 27 (L2.check_ 27).rel [.v 0, .v 1, .v 2, .v 3, .v 4, .v 5] [] 1 0 (.letI (.cmp .eql (.v 23) (.v 24)) (.ite (.v 25) (.done [] []) (.fail 180))))) (.fail 180))))) (.fail 180))))) (.fail 180))))) (.fail 180))) (.letI (.cmp .leq (.v 7) (.v 4)) (.ite (.v 13) (.letI (.cmp .eql (.v 8) (.v 10)) (.ite (.v 14) (.letI (.not (.v 9)) (.letI (.not (.v 11)) (.letI (.cmp .eql (.v 15) (.v 16)) (.ite (.v 17) (.call 43 (L2.args_ 43).rel [.v 8] [] 1 0 (.call 44 (L2.args_ 44).rel [.v 8] [] 1 0 (.letI (.cmp .eql (.v 18) (.v 19)) (.ite (.v 20) (.call 43 (L2.args_ 43).rel [.v 6] [] 1 0 (.call 44 (L2.args_ 44).rel [.v 6] [] 1 0 (.letI (.cmp .eql (.v 21) (.v 22)) (.ite (.v 23) (.call 26 (L2.check_ 26).rel [.v 0, .v 1, .v 2, .v 3, .v 4, .v 5] [] 1 0 (.call 27 (L2.check_ 27).rel [.v 0, .v 1, .v 2, .v 3, .v 4, .v 5] [] 1 0 (.letI (.cmp .eql (.v 24) (.v 25)) (.ite (.v 26) (.done [] []) (.fail 180))))) (.fail 180))))) (.fail 180))))) (.fail 180))))) (.fail 180))) (.letI (.cmp .eql (.v 8) (.v 10)) (.ite (.v 14) (.letI (.not (.v 9)) (.letI (.not (.v 11)) (.letI (.cmp .eql (.v 15) (.v 16)) (.ite (.v 17) (.call 43 (L2.args_ 43).rel [.v 8] [] 1 0 (.call 44 (L2.args_ 44).rel [.v 8] [] 1 0 (.letI (.cmp .eql (.v 18) (.v 19)) (.ite (.v 20) (.call 43 (L2.args_ 43).rel [.v 6] [] 1 0 (.call 44 (L2.args_ 44).rel [.v 6] [] 1 0 (.letI (.cmp .eql (.v 21) (.v 22)) (.ite (.v 23) (.call 26 (L2.check_ 26).rel [.v 0, .v 1, .v 2, .v 3, .v 4, .v 5] [] 1 0 (.call 27 (L2.check_ 27).rel [.v 0, .v 1, .v 2, .v 3, .v 4, .v 5] [] 1 0 (.letI (.cmp .eql (.v 24) (.v 25)) (.ite (.v 26) (.done [] []) (.fail 180))))) (.fail 180))))) (.fail 180))))) (.fail 180))))) (.fail 180)))))))))
theorem WordAll_ec_tree : (((lawSpec 8 [.agg L2.ks5, .one (.i .i64), .one (.i .i64), .one (.i .i64)]).withRng 6 (4) (4)).withRng 1 (4) (18446744073709551615)).exe Tryz.prog (withS (L2.cfg2 Tryz.prog) [L2.kind_ 39, L2.kind_ 40, L2.check_ 26, L2.check_ 27, L2.args_ 43, L2.args_ 44, L2.within_ 56, L2.within_ 57, L2.lets_ 58, L2.lets_ 59, L2.put_ 52, L2.put_ 77, L2.get_ 53, L2.get_ 78]) [] 20 200 = WordAll_ec_t := by kernel_rfl
theorem WordAll_ec_vc (Q : List Int → List (List Int) → Prop) (v0 v1 v2 v3 v4 v5 v6 v7 : Int) : WordAll_ec_t.dn ⟨Q, []⟩ 8 [v7, v6, v5, v4, v3, v2, v1, v0] 0 [] = ((L2.yes L2.f_messuagelaw2_begun).rel.pre [] [] ∧
((L2.yes L2.f_messuagelaw2_begun).rel.post [] [] [] [] → (L2.kind_ 39).rel.pre [v0, v1, v2, v3, v4] [] ∧
(∀ v8 : Int, ∀ v9 : Int, (L2.kind_ 39).rel.post [v0, v1, v2, v3, v4] [] [v8, v9] [] → (L2.kind_ 40).rel.pre [v0, v1, v2, v3, v4] [] ∧
(∀ v10 : Int, ∀ v11 : Int, (L2.kind_ 40).rel.post [v0, v1, v2, v3, v4] [] [v10, v11] [] → ((v7 ≤ (0 : Int)) → ((v8 = v10) → ∀ v14 : Int, v14 = b2i (v9 == 0) → ∀ v15 : Int, v15 = b2i (v11 == 0) → ((v14 = v15) → (L2.args_ 43).rel.pre [v8] [] ∧
(∀ v17 : Int, (L2.args_ 43).rel.post [v8] [] [v17] [] → (L2.args_ 44).rel.pre [v8] [] ∧
(∀ v18 : Int, (L2.args_ 44).rel.post [v8] [] [v18] [] → ((v17 = v18) → (L2.args_ 43).rel.pre [v6] [] ∧
(∀ v20 : Int, (L2.args_ 43).rel.post [v6] [] [v20] [] → (L2.args_ 44).rel.pre [v6] [] ∧
(∀ v21 : Int, (L2.args_ 44).rel.post [v6] [] [v21] [] → ((v20 = v21) → (L2.check_ 26).rel.pre [v0, v1, v2, v3, v4, v5] [] ∧
(∀ v23 : Int, (L2.check_ 26).rel.post [v0, v1, v2, v3, v4, v5] [] [v23] [] → (L2.check_ 27).rel.pre [v0, v1, v2, v3, v4, v5] [] ∧
(∀ v24 : Int, (L2.check_ 27).rel.post [v0, v1, v2, v3, v4, v5] [] [v24] [] → ((v23 = v24) → Q [] []) ∧
((v23 ≠ v24) → False)))) ∧
((v20 ≠ v21) → False)))) ∧
((v17 ≠ v18) → False)))) ∧
((v14 ≠ v15) → False)) ∧
((v8 ≠ v10) → False)) ∧
(((0 : Int) < v7) → ((v7 ≤ v4) → ((v8 = v10) → ∀ v15 : Int, v15 = b2i (v9 == 0) → ∀ v16 : Int, v16 = b2i (v11 == 0) → ((v15 = v16) → (L2.args_ 43).rel.pre [v8] [] ∧
(∀ v18 : Int, (L2.args_ 43).rel.post [v8] [] [v18] [] → (L2.args_ 44).rel.pre [v8] [] ∧
(∀ v19 : Int, (L2.args_ 44).rel.post [v8] [] [v19] [] → ((v18 = v19) → (L2.args_ 43).rel.pre [v6] [] ∧
(∀ v21 : Int, (L2.args_ 43).rel.post [v6] [] [v21] [] → (L2.args_ 44).rel.pre [v6] [] ∧
(∀ v22 : Int, (L2.args_ 44).rel.post [v6] [] [v22] [] → ((v21 = v22) → (L2.check_ 26).rel.pre [v0, v1, v2, v3, v4, v5] [] ∧
(∀ v24 : Int, (L2.check_ 26).rel.post [v0, v1, v2, v3, v4, v5] [] [v24] [] → (L2.check_ 27).rel.pre [v0, v1, v2, v3, v4, v5] [] ∧
(∀ v25 : Int, (L2.check_ 27).rel.post [v0, v1, v2, v3, v4, v5] [] [v25] [] → ((v24 = v25) → Q [] []) ∧
((v24 ≠ v25) → False)))) ∧
((v21 ≠ v22) → False)))) ∧
((v18 ≠ v19) → False)))) ∧
((v15 ≠ v16) → False)) ∧
((v8 ≠ v10) → False)) ∧
((v4 < v7) → ((v8 = v10) → ∀ v15 : Int, v15 = b2i (v9 == 0) → ∀ v16 : Int, v16 = b2i (v11 == 0) → ((v15 = v16) → (L2.args_ 43).rel.pre [v8] [] ∧
(∀ v18 : Int, (L2.args_ 43).rel.post [v8] [] [v18] [] → (L2.args_ 44).rel.pre [v8] [] ∧
(∀ v19 : Int, (L2.args_ 44).rel.post [v8] [] [v19] [] → ((v18 = v19) → (L2.args_ 43).rel.pre [v6] [] ∧
(∀ v21 : Int, (L2.args_ 43).rel.post [v6] [] [v21] [] → (L2.args_ 44).rel.pre [v6] [] ∧
(∀ v22 : Int, (L2.args_ 44).rel.post [v6] [] [v22] [] → ((v21 = v22) → (L2.check_ 26).rel.pre [v0, v1, v2, v3, v4, v5] [] ∧
(∀ v24 : Int, (L2.check_ 26).rel.post [v0, v1, v2, v3, v4, v5] [] [v24] [] → (L2.check_ 27).rel.pre [v0, v1, v2, v3, v4, v5] [] ∧
(∀ v25 : Int, (L2.check_ 27).rel.post [v0, v1, v2, v3, v4, v5] [] [v25] [] → ((v24 = v25) → Q [] []) ∧
((v24 ≠ v25) → False)))) ∧
((v21 ≠ v22) → False)))) ∧
((v18 ≠ v19) → False)))) ∧
((v15 ≠ v16) → False)) ∧
((v8 ≠ v10) → False))))))) := by kernel_rfl
set_option maxHeartbeats 4000000 in
theorem wordAll_part_ec0 : (((lawSpec 8 [.agg L2.ks5, .one (.i .i64), .one (.i .i64), .one (.i .i64)]).withRng 6 (4) (4)).withRng 1 (4) (18446744073709551615)).Holds Tryz.prog L2.ro := FSpec.holdsV (cfg := withS (L2.cfg2 Tryz.prog) [L2.kind_ 39, L2.kind_ 40, L2.check_ 26, L2.check_ 27, L2.args_ 43, L2.args_ 44, L2.within_ 56, L2.within_ 57, L2.lets_ 58, L2.lets_ 59, L2.put_ 52, L2.put_ 77, L2.get_ 53, L2.get_ 78]) [] 20 200 (withS_ok cfg2_ok ⟨wKind_holds, rKind_holds, wCheck_holds, rCheck_holds, wArgs_holds, rArgs_holds, pWithin_holds, rWithin_holds, pLets_holds, rLets_holds, pPut_holds, rPte_holds, pGet_holds, rGet_holds, trivial⟩) mixed (t := WordAll_ec_t) WordAll_ec_tree (by
  show ∀ (v0 v1 v2 v3 v4 v5 v6 v7 : Int) , _
  intro v0 v1 v2 v3 v4 v5 v6 v7  hp hr hl
  replace hr : (((4) : Int) ≤ v1 ∧ v1 ≤ ((18446744073709551615) : Int)) ∧ (((4) : Int) ≤ v6 ∧ v6 ≤ ((4) : Int)) ∧ ((0 : Int) ≤ v0 ∧ v0 ≤ (18446744073709551615 : Int)) ∧ ((0 : Int) ≤ v1 ∧ v1 ≤ (18446744073709551615 : Int)) ∧ ((0 : Int) ≤ v2 ∧ v2 ≤ (18446744073709551615 : Int)) ∧ ((0 : Int) ≤ v3 ∧ v3 ≤ (18446744073709551615 : Int)) ∧ ((0 : Int) ≤ v4 ∧ v4 ≤ (18446744073709551615 : Int)) ∧ ((-9223372036854775808 : Int) ≤ v5 ∧ v5 ≤ (9223372036854775807 : Int)) ∧ ((-9223372036854775808 : Int) ≤ v6 ∧ v6 ≤ (9223372036854775807 : Int)) ∧ ((-9223372036854775808 : Int) ≤ v7 ∧ v7 ≤ (9223372036854775807 : Int)) ∧ True := hr
  replace hp : True := hp
  show WordAll_ec_t.dn ⟨_, []⟩ 8 [v7, v6, v5, v4, v3, v2, v1, v0] 0 []
  rw [WordAll_ec_vc]
  show ((L2.yes L2.f_messuagelaw2_begun).rel.pre [] [] ∧ _)
  refine ⟨trivial, fun _ => ?_⟩
  simp only [fnSpec_post, fnSpec_pre, true_and, List.cons.injEq, and_true, List.getD_cons_zero, List.getD_cons_succ, and_imp]
  intro v8 v9 e8 e9 v10 v11 e10 e11
  subst e8 e9 e10 e11
  simp only [b2i, forall_eq]
  repeat' first | refine And.intro ?_ ?_ | intro _
  all_goals first | trivial | omega | grind)

noncomputable def WordAll_fa_t : Tree := .call 25 (L2.yes L2.f_messuagelaw2_begun).rel [] [] 0 0 (.call 39 (L2.kind_ 39).rel [.v 0, .v 1, .v 2, .v 3, .v 4] [] 2 0 (.call 40 (L2.kind_ 40).rel [.v 0, .v 1, .v 2, .v 3, .v 4] [] 2 0 (.letI (.cmp .eql (.v 8) (.v 10)) (.ite (.v 12) (.letI (.not (.v 9)) (.letI (.not (.v 11)) (.letI (.cmp .eql (.v 13) (.v 14)) (.ite (.v 15) (.call 43 (L2.args_ 43).rel [.v 8] [] 1 0 (.call 44 (L2.args_ 44).rel [.v 8] [] 1 0 (.letI (.cmp .eql (.v 16) (.v 17)) (.ite (.v 18) (.call 43 (L2.args_ 43).rel [.v 6] [] 1 0 (.call 44 (L2.args_ 44).rel [.v 6] [] 1 0 (.letI (.cmp .eql (.v 19) (.v 20)) (.ite (.v 21) (.letI (.cmp .leq (.c 20) (.v 6)) (.ite (.v 22) (.letI (.cmp .leq (.v 6) (.c 23)) (.letI (.not (.v 23)) (.call 26 (L2.check_ 26).rel [.v 0, .v 1, .v 2, .v 3, .v 4, .v 5] [] 1 0 (.call 27 (L2.check_ 27).rel [.v 0, .v 1, .v 2, .v 3, .v 4, .v 5] [] 1 0 (.letI (.cmp .eql (.v 25) (.v 26)) (.ite (.v 27) (.done [] []) (.fail 180))))))) (.call 26 (L2.check_ 26).rel [.v 0, .v 1, .v 2, .v 3, .v 4, .v 5] [] 1 0 (.call 27 (L2.check_ 27).rel [.v 0, .v 1, .v 2, .v 3, .v 4, .v 5] [] 1 0 (.letI (.cmp .eql (.v 23) (.v 24)) (.ite (.v 25) (.done [] []) (.fail 180))))))) (.fail 180))))) (.fail 180))))) (.fail 180))))) (.fail 180)))))
theorem WordAll_fa_tree : (((lawSpec 8 [.agg L2.ks5, .one (.i .i64), .one (.i .i64), .one (.i .i64)]).withRng 6 (5) (9223372036854775807)).withRng 1 (0) (0)).exe Tryz.prog (withS (L2.cfg2 Tryz.prog) [L2.kind_ 39, L2.kind_ 40, L2.check_ 26, L2.check_ 27, L2.args_ 43, L2.args_ 44, L2.within_ 56, L2.within_ 57, L2.lets_ 58, L2.lets_ 59, L2.put_ 52, L2.put_ 77, L2.get_ 53, L2.get_ 78]) [] 20 200 = WordAll_fa_t := by kernel_rfl
theorem WordAll_fa_vc (Q : List Int → List (List Int) → Prop) (v0 v1 v2 v3 v4 v5 v6 v7 : Int) : WordAll_fa_t.dn ⟨Q, []⟩ 8 [v7, v6, v5, v4, v3, v2, v1, v0] 0 [] = ((L2.yes L2.f_messuagelaw2_begun).rel.pre [] [] ∧
((L2.yes L2.f_messuagelaw2_begun).rel.post [] [] [] [] → (L2.kind_ 39).rel.pre [v0, v1, v2, v3, v4] [] ∧
(∀ v8 : Int, ∀ v9 : Int, (L2.kind_ 39).rel.post [v0, v1, v2, v3, v4] [] [v8, v9] [] → (L2.kind_ 40).rel.pre [v0, v1, v2, v3, v4] [] ∧
(∀ v10 : Int, ∀ v11 : Int, (L2.kind_ 40).rel.post [v0, v1, v2, v3, v4] [] [v10, v11] [] → ((v8 = v10) → ∀ v13 : Int, v13 = b2i (v9 == 0) → ∀ v14 : Int, v14 = b2i (v11 == 0) → ((v13 = v14) → (L2.args_ 43).rel.pre [v8] [] ∧
(∀ v16 : Int, (L2.args_ 43).rel.post [v8] [] [v16] [] → (L2.args_ 44).rel.pre [v8] [] ∧
(∀ v17 : Int, (L2.args_ 44).rel.post [v8] [] [v17] [] → ((v16 = v17) → (L2.args_ 43).rel.pre [v6] [] ∧
(∀ v19 : Int, (L2.args_ 43).rel.post [v6] [] [v19] [] → (L2.args_ 44).rel.pre [v6] [] ∧
(∀ v20 : Int, (L2.args_ 44).rel.post [v6] [] [v20] [] → ((v19 = v20) → (((20 : Int) ≤ v6) → ∀ v23 : Int, v23 = b2i (decide (v6 ≤ (23 : Int))) → ∀ v24 : Int, v24 = b2i (v23 == 0) → (L2.check_ 26).rel.pre [v0, v1, v2, v3, v4, v5] [] ∧
(∀ v25 : Int, (L2.check_ 26).rel.post [v0, v1, v2, v3, v4, v5] [] [v25] [] → (L2.check_ 27).rel.pre [v0, v1, v2, v3, v4, v5] [] ∧
(∀ v26 : Int, (L2.check_ 27).rel.post [v0, v1, v2, v3, v4, v5] [] [v26] [] → ((v25 = v26) → Q [] []) ∧
((v25 ≠ v26) → False)))) ∧
((v6 < (20 : Int)) → (L2.check_ 26).rel.pre [v0, v1, v2, v3, v4, v5] [] ∧
(∀ v23 : Int, (L2.check_ 26).rel.post [v0, v1, v2, v3, v4, v5] [] [v23] [] → (L2.check_ 27).rel.pre [v0, v1, v2, v3, v4, v5] [] ∧
(∀ v24 : Int, (L2.check_ 27).rel.post [v0, v1, v2, v3, v4, v5] [] [v24] [] → ((v23 = v24) → Q [] []) ∧
((v23 ≠ v24) → False))))) ∧
((v19 ≠ v20) → False)))) ∧
((v16 ≠ v17) → False)))) ∧
((v13 ≠ v14) → False)) ∧
((v8 ≠ v10) → False))))) := by kernel_rfl
set_option maxHeartbeats 4000000 in
theorem wordAll_part_fa0 : (((lawSpec 8 [.agg L2.ks5, .one (.i .i64), .one (.i .i64), .one (.i .i64)]).withRng 6 (5) (9223372036854775807)).withRng 1 (0) (0)).Holds Tryz.prog L2.ro := FSpec.holdsV (cfg := withS (L2.cfg2 Tryz.prog) [L2.kind_ 39, L2.kind_ 40, L2.check_ 26, L2.check_ 27, L2.args_ 43, L2.args_ 44, L2.within_ 56, L2.within_ 57, L2.lets_ 58, L2.lets_ 59, L2.put_ 52, L2.put_ 77, L2.get_ 53, L2.get_ 78]) [] 20 200 (withS_ok cfg2_ok ⟨wKind_holds, rKind_holds, wCheck_holds, rCheck_holds, wArgs_holds, rArgs_holds, pWithin_holds, rWithin_holds, pLets_holds, rLets_holds, pPut_holds, rPte_holds, pGet_holds, rGet_holds, trivial⟩) mixed (t := WordAll_fa_t) WordAll_fa_tree (by
  show ∀ (v0 v1 v2 v3 v4 v5 v6 v7 : Int) , _
  intro v0 v1 v2 v3 v4 v5 v6 v7  hp hr hl
  replace hr : (((0) : Int) ≤ v1 ∧ v1 ≤ ((0) : Int)) ∧ (((5) : Int) ≤ v6 ∧ v6 ≤ ((9223372036854775807) : Int)) ∧ ((0 : Int) ≤ v0 ∧ v0 ≤ (18446744073709551615 : Int)) ∧ ((0 : Int) ≤ v1 ∧ v1 ≤ (18446744073709551615 : Int)) ∧ ((0 : Int) ≤ v2 ∧ v2 ≤ (18446744073709551615 : Int)) ∧ ((0 : Int) ≤ v3 ∧ v3 ≤ (18446744073709551615 : Int)) ∧ ((0 : Int) ≤ v4 ∧ v4 ≤ (18446744073709551615 : Int)) ∧ ((-9223372036854775808 : Int) ≤ v5 ∧ v5 ≤ (9223372036854775807 : Int)) ∧ ((-9223372036854775808 : Int) ≤ v6 ∧ v6 ≤ (9223372036854775807 : Int)) ∧ ((-9223372036854775808 : Int) ≤ v7 ∧ v7 ≤ (9223372036854775807 : Int)) ∧ True := hr
  replace hp : True := hp
  show WordAll_fa_t.dn ⟨_, []⟩ 8 [v7, v6, v5, v4, v3, v2, v1, v0] 0 []
  rw [WordAll_fa_vc]
  show ((L2.yes L2.f_messuagelaw2_begun).rel.pre [] [] ∧ _)
  refine ⟨trivial, fun _ => ?_⟩
  simp only [fnSpec_post, fnSpec_pre, true_and, List.cons.injEq, and_true, List.getD_cons_zero, List.getD_cons_succ, and_imp]
  intro v8 v9 e8 e9 v10 v11 e10 e11
  subst e8 e9 e10 e11
  simp only [b2i, forall_eq]
  repeat' first | refine And.intro ?_ ?_ | intro _
  all_goals first | trivial | omega | grind)

noncomputable def WordAll_fb_t : Tree := .call 25 (L2.yes L2.f_messuagelaw2_begun).rel [] [] 0 0 (.call 39 (L2.kind_ 39).rel [.v 0, .v 1, .v 2, .v 3, .v 4] [] 2 0 (.call 40 (L2.kind_ 40).rel [.v 0, .v 1, .v 2, .v 3, .v 4] [] 2 0 (.letI (.cmp .eql (.v 8) (.v 10)) (.ite (.v 12) (.letI (.not (.v 9)) (.letI (.not (.v 11)) (.letI (.cmp .eql (.v 13) (.v 14)) (.ite (.v 15) (.call 43 (L2.args_ 43).rel [.v 8] [] 1 0 (.call 44 (L2.args_ 44).rel [.v 8] [] 1 0 (.letI (.cmp .eql (.v 16) (.v 17)) (.ite (.v 18) (.call 43 (L2.args_ 43).rel [.v 6] [] 1 0 (.call 44 (L2.args_ 44).rel [.v 6] [] 1 0 (.letI (.cmp .eql (.v 19) (.v 20)) (.ite (.v 21) (.letI (.cmp .leq (.c 20) (.v 6)) (.ite (.v 22) (.letI (.cmp .leq (.v 6) (.c 23)) (.letI (.not (.v 23)) (.call 26 (L2.check_ 26).rel [.v 0, .v 1, .v 2, .v 3, .v 4, .v 5] [] 1 0 (.call 27 (L2.check_ 27).rel [.v 0, .v 1, .v 2, .v 3, .v 4, .v 5] [] 1 0 (.letI (.cmp .eql (.v 25) (.v 26)) (.ite (.v 27) (.done [] []) (.fail 180))))))) (.call 26 (L2.check_ 26).rel [.v 0, .v 1, .v 2, .v 3, .v 4, .v 5] [] 1 0 (.call 27 (L2.check_ 27).rel [.v 0, .v 1, .v 2, .v 3, .v 4, .v 5] [] 1 0 (.letI (.cmp .eql (.v 23) (.v 24)) (.ite (.v 25) (.done [] []) (.fail 180))))))) (.fail 180))))) (.fail 180))))) (.fail 180))))) (.fail 180)))))
theorem WordAll_fb_tree : (((lawSpec 8 [.agg L2.ks5, .one (.i .i64), .one (.i .i64), .one (.i .i64)]).withRng 6 (5) (9223372036854775807)).withRng 1 (1) (3)).exe Tryz.prog (withS (L2.cfg2 Tryz.prog) [L2.kind_ 39, L2.kind_ 40, L2.check_ 26, L2.check_ 27, L2.args_ 43, L2.args_ 44, L2.within_ 56, L2.within_ 57, L2.lets_ 58, L2.lets_ 59, L2.put_ 52, L2.put_ 77, L2.get_ 53, L2.get_ 78]) [] 20 200 = WordAll_fb_t := by kernel_rfl
theorem WordAll_fb_vc (Q : List Int → List (List Int) → Prop) (v0 v1 v2 v3 v4 v5 v6 v7 : Int) : WordAll_fb_t.dn ⟨Q, []⟩ 8 [v7, v6, v5, v4, v3, v2, v1, v0] 0 [] = ((L2.yes L2.f_messuagelaw2_begun).rel.pre [] [] ∧
((L2.yes L2.f_messuagelaw2_begun).rel.post [] [] [] [] → (L2.kind_ 39).rel.pre [v0, v1, v2, v3, v4] [] ∧
(∀ v8 : Int, ∀ v9 : Int, (L2.kind_ 39).rel.post [v0, v1, v2, v3, v4] [] [v8, v9] [] → (L2.kind_ 40).rel.pre [v0, v1, v2, v3, v4] [] ∧
(∀ v10 : Int, ∀ v11 : Int, (L2.kind_ 40).rel.post [v0, v1, v2, v3, v4] [] [v10, v11] [] → ((v8 = v10) → ∀ v13 : Int, v13 = b2i (v9 == 0) → ∀ v14 : Int, v14 = b2i (v11 == 0) → ((v13 = v14) → (L2.args_ 43).rel.pre [v8] [] ∧
(∀ v16 : Int, (L2.args_ 43).rel.post [v8] [] [v16] [] → (L2.args_ 44).rel.pre [v8] [] ∧
(∀ v17 : Int, (L2.args_ 44).rel.post [v8] [] [v17] [] → ((v16 = v17) → (L2.args_ 43).rel.pre [v6] [] ∧
(∀ v19 : Int, (L2.args_ 43).rel.post [v6] [] [v19] [] → (L2.args_ 44).rel.pre [v6] [] ∧
(∀ v20 : Int, (L2.args_ 44).rel.post [v6] [] [v20] [] → ((v19 = v20) → (((20 : Int) ≤ v6) → ∀ v23 : Int, v23 = b2i (decide (v6 ≤ (23 : Int))) → ∀ v24 : Int, v24 = b2i (v23 == 0) → (L2.check_ 26).rel.pre [v0, v1, v2, v3, v4, v5] [] ∧
(∀ v25 : Int, (L2.check_ 26).rel.post [v0, v1, v2, v3, v4, v5] [] [v25] [] → (L2.check_ 27).rel.pre [v0, v1, v2, v3, v4, v5] [] ∧
(∀ v26 : Int, (L2.check_ 27).rel.post [v0, v1, v2, v3, v4, v5] [] [v26] [] → ((v25 = v26) → Q [] []) ∧
((v25 ≠ v26) → False)))) ∧
((v6 < (20 : Int)) → (L2.check_ 26).rel.pre [v0, v1, v2, v3, v4, v5] [] ∧
(∀ v23 : Int, (L2.check_ 26).rel.post [v0, v1, v2, v3, v4, v5] [] [v23] [] → (L2.check_ 27).rel.pre [v0, v1, v2, v3, v4, v5] [] ∧
(∀ v24 : Int, (L2.check_ 27).rel.post [v0, v1, v2, v3, v4, v5] [] [v24] [] → ((v23 = v24) → Q [] []) ∧
((v23 ≠ v24) → False))))) ∧
((v19 ≠ v20) → False)))) ∧
((v16 ≠ v17) → False)))) ∧
((v13 ≠ v14) → False)) ∧
((v8 ≠ v10) → False))))) := by kernel_rfl
set_option maxHeartbeats 4000000 in
theorem wordAll_part_fb0 : (((lawSpec 8 [.agg L2.ks5, .one (.i .i64), .one (.i .i64), .one (.i .i64)]).withRng 6 (5) (9223372036854775807)).withRng 1 (1) (3)).Holds Tryz.prog L2.ro := FSpec.holdsV (cfg := withS (L2.cfg2 Tryz.prog) [L2.kind_ 39, L2.kind_ 40, L2.check_ 26, L2.check_ 27, L2.args_ 43, L2.args_ 44, L2.within_ 56, L2.within_ 57, L2.lets_ 58, L2.lets_ 59, L2.put_ 52, L2.put_ 77, L2.get_ 53, L2.get_ 78]) [] 20 200 (withS_ok cfg2_ok ⟨wKind_holds, rKind_holds, wCheck_holds, rCheck_holds, wArgs_holds, rArgs_holds, pWithin_holds, rWithin_holds, pLets_holds, rLets_holds, pPut_holds, rPte_holds, pGet_holds, rGet_holds, trivial⟩) mixed (t := WordAll_fb_t) WordAll_fb_tree (by
  show ∀ (v0 v1 v2 v3 v4 v5 v6 v7 : Int) , _
  intro v0 v1 v2 v3 v4 v5 v6 v7  hp hr hl
  replace hr : (((1) : Int) ≤ v1 ∧ v1 ≤ ((3) : Int)) ∧ (((5) : Int) ≤ v6 ∧ v6 ≤ ((9223372036854775807) : Int)) ∧ ((0 : Int) ≤ v0 ∧ v0 ≤ (18446744073709551615 : Int)) ∧ ((0 : Int) ≤ v1 ∧ v1 ≤ (18446744073709551615 : Int)) ∧ ((0 : Int) ≤ v2 ∧ v2 ≤ (18446744073709551615 : Int)) ∧ ((0 : Int) ≤ v3 ∧ v3 ≤ (18446744073709551615 : Int)) ∧ ((0 : Int) ≤ v4 ∧ v4 ≤ (18446744073709551615 : Int)) ∧ ((-9223372036854775808 : Int) ≤ v5 ∧ v5 ≤ (9223372036854775807 : Int)) ∧ ((-9223372036854775808 : Int) ≤ v6 ∧ v6 ≤ (9223372036854775807 : Int)) ∧ ((-9223372036854775808 : Int) ≤ v7 ∧ v7 ≤ (9223372036854775807 : Int)) ∧ True := hr
  replace hp : True := hp
  show WordAll_fb_t.dn ⟨_, []⟩ 8 [v7, v6, v5, v4, v3, v2, v1, v0] 0 []
  rw [WordAll_fb_vc]
  show ((L2.yes L2.f_messuagelaw2_begun).rel.pre [] [] ∧ _)
  refine ⟨trivial, fun _ => ?_⟩
  simp only [fnSpec_post, fnSpec_pre, true_and, List.cons.injEq, and_true, List.getD_cons_zero, List.getD_cons_succ, and_imp]
  intro v8 v9 e8 e9 v10 v11 e10 e11
  subst e8 e9 e10 e11
  simp only [b2i, forall_eq]
  repeat' first | refine And.intro ?_ ?_ | intro _
  all_goals first | trivial | omega | grind)

noncomputable def WordAll_fc_t : Tree := .call 25 (L2.yes L2.f_messuagelaw2_begun).rel [] [] 0 0 (.call 39 (L2.kind_ 39).rel [.v 0, .v 1, .v 2, .v 3, .v 4] [] 2 0 (.call 40 (L2.kind_ 40).rel [.v 0, .v 1, .v 2, .v 3, .v 4] [] 2 0 (.letI (.cmp .eql (.v 8) (.v 10)) (.ite (.v 12) (.letI (.not (.v 9)) (.letI (.not (.v 11)) (.letI (.cmp .eql (.v 13) (.v 14)) (.ite (.v 15) (.call 43 (L2.args_ 43).rel [.v 8] [] 1 0 (.call 44 (L2.args_ 44).rel [.v 8] [] 1 0 (.letI (.cmp .eql (.v 16) (.v 17)) (.ite (.v 18) (.call 43 (L2.args_ 43).rel [.v 6] [] 1 0 (.call 44 (L2.args_ 44).rel [.v 6] [] 1 0 (.letI (.cmp .eql (.v 19) (.v 20)) (.ite (.v 21) (.letI (.cmp .leq (.c 20) (.v 6)) (.ite (.v 22) (.letI (.cmp .leq (.v 6) (.c 23)) (.letI (.not (.v 23)) (.call 26 (L2.check_ 26).rel [.v 0, .v 1, .v 2, .v 3, .v 4, .v 5] [] 1 0 (.call 27 (L2.check_ 27).rel [.v 0, .v 1, .v 2, .v 3, .v 4, .v 5] [] 1 0 (.letI (.cmp .eql (.v 25) (.v 26)) (.ite (.v 27) (.done [] []) (.fail 180))))))) (.call 26 (L2.check_ 26).rel [.v 0, .v 1, .v 2, .v 3, .v 4, .v 5] [] 1 0 (.call 27 (L2.check_ 27).rel [.v 0, .v 1, .v 2, .v 3, .v 4, .v 5] [] 1 0 (.letI (.cmp .eql (.v 23) (.v 24)) (.ite (.v 25) (.done [] []) (.fail 180))))))) (.fail 180))))) (.fail 180))))) (.fail 180))))) (.fail 180)))))
theorem WordAll_fc_tree : (((lawSpec 8 [.agg L2.ks5, .one (.i .i64), .one (.i .i64), .one (.i .i64)]).withRng 6 (5) (9223372036854775807)).withRng 1 (4) (18446744073709551615)).exe Tryz.prog (withS (L2.cfg2 Tryz.prog) [L2.kind_ 39, L2.kind_ 40, L2.check_ 26, L2.check_ 27, L2.args_ 43, L2.args_ 44, L2.within_ 56, L2.within_ 57, L2.lets_ 58, L2.lets_ 59, L2.put_ 52, L2.put_ 77, L2.get_ 53, L2.get_ 78]) [] 20 200 = WordAll_fc_t := by kernel_rfl
theorem WordAll_fc_vc (Q : List Int → List (List Int) → Prop) (v0 v1 v2 v3 v4 v5 v6 v7 : Int) : WordAll_fc_t.dn ⟨Q, []⟩ 8 [v7, v6, v5, v4, v3, v2, v1, v0] 0 [] = ((L2.yes L2.f_messuagelaw2_begun).rel.pre [] [] ∧
((L2.yes L2.f_messuagelaw2_begun).rel.post [] [] [] [] → (L2.kind_ 39).rel.pre [v0, v1, v2, v3, v4] [] ∧
(∀ v8 : Int, ∀ v9 : Int, (L2.kind_ 39).rel.post [v0, v1, v2, v3, v4] [] [v8, v9] [] → (L2.kind_ 40).rel.pre [v0, v1, v2, v3, v4] [] ∧
(∀ v10 : Int, ∀ v11 : Int, (L2.kind_ 40).rel.post [v0, v1, v2, v3, v4] [] [v10, v11] [] → ((v8 = v10) → ∀ v13 : Int, v13 = b2i (v9 == 0) → ∀ v14 : Int, v14 = b2i (v11 == 0) → ((v13 = v14) → (L2.args_ 43).rel.pre [v8] [] ∧
(∀ v16 : Int, (L2.args_ 43).rel.post [v8] [] [v16] [] → (L2.args_ 44).rel.pre [v8] [] ∧
(∀ v17 : Int, (L2.args_ 44).rel.post [v8] [] [v17] [] → ((v16 = v17) → (L2.args_ 43).rel.pre [v6] [] ∧
(∀ v19 : Int, (L2.args_ 43).rel.post [v6] [] [v19] [] → (L2.args_ 44).rel.pre [v6] [] ∧
(∀ v20 : Int, (L2.args_ 44).rel.post [v6] [] [v20] [] → ((v19 = v20) → (((20 : Int) ≤ v6) → ∀ v23 : Int, v23 = b2i (decide (v6 ≤ (23 : Int))) → ∀ v24 : Int, v24 = b2i (v23 == 0) → (L2.check_ 26).rel.pre [v0, v1, v2, v3, v4, v5] [] ∧
(∀ v25 : Int, (L2.check_ 26).rel.post [v0, v1, v2, v3, v4, v5] [] [v25] [] → (L2.check_ 27).rel.pre [v0, v1, v2, v3, v4, v5] [] ∧
(∀ v26 : Int, (L2.check_ 27).rel.post [v0, v1, v2, v3, v4, v5] [] [v26] [] → ((v25 = v26) → Q [] []) ∧
((v25 ≠ v26) → False)))) ∧
((v6 < (20 : Int)) → (L2.check_ 26).rel.pre [v0, v1, v2, v3, v4, v5] [] ∧
(∀ v23 : Int, (L2.check_ 26).rel.post [v0, v1, v2, v3, v4, v5] [] [v23] [] → (L2.check_ 27).rel.pre [v0, v1, v2, v3, v4, v5] [] ∧
(∀ v24 : Int, (L2.check_ 27).rel.post [v0, v1, v2, v3, v4, v5] [] [v24] [] → ((v23 = v24) → Q [] []) ∧
((v23 ≠ v24) → False))))) ∧
((v19 ≠ v20) → False)))) ∧
((v16 ≠ v17) → False)))) ∧
((v13 ≠ v14) → False)) ∧
((v8 ≠ v10) → False))))) := by kernel_rfl
set_option maxHeartbeats 4000000 in
theorem wordAll_part_fc0 : (((lawSpec 8 [.agg L2.ks5, .one (.i .i64), .one (.i .i64), .one (.i .i64)]).withRng 6 (5) (9223372036854775807)).withRng 1 (4) (18446744073709551615)).Holds Tryz.prog L2.ro := FSpec.holdsV (cfg := withS (L2.cfg2 Tryz.prog) [L2.kind_ 39, L2.kind_ 40, L2.check_ 26, L2.check_ 27, L2.args_ 43, L2.args_ 44, L2.within_ 56, L2.within_ 57, L2.lets_ 58, L2.lets_ 59, L2.put_ 52, L2.put_ 77, L2.get_ 53, L2.get_ 78]) [] 20 200 (withS_ok cfg2_ok ⟨wKind_holds, rKind_holds, wCheck_holds, rCheck_holds, wArgs_holds, rArgs_holds, pWithin_holds, rWithin_holds, pLets_holds, rLets_holds, pPut_holds, rPte_holds, pGet_holds, rGet_holds, trivial⟩) mixed (t := WordAll_fc_t) WordAll_fc_tree (by
  show ∀ (v0 v1 v2 v3 v4 v5 v6 v7 : Int) , _
  intro v0 v1 v2 v3 v4 v5 v6 v7  hp hr hl
  replace hr : (((4) : Int) ≤ v1 ∧ v1 ≤ ((18446744073709551615) : Int)) ∧ (((5) : Int) ≤ v6 ∧ v6 ≤ ((9223372036854775807) : Int)) ∧ ((0 : Int) ≤ v0 ∧ v0 ≤ (18446744073709551615 : Int)) ∧ ((0 : Int) ≤ v1 ∧ v1 ≤ (18446744073709551615 : Int)) ∧ ((0 : Int) ≤ v2 ∧ v2 ≤ (18446744073709551615 : Int)) ∧ ((0 : Int) ≤ v3 ∧ v3 ≤ (18446744073709551615 : Int)) ∧ ((0 : Int) ≤ v4 ∧ v4 ≤ (18446744073709551615 : Int)) ∧ ((-9223372036854775808 : Int) ≤ v5 ∧ v5 ≤ (9223372036854775807 : Int)) ∧ ((-9223372036854775808 : Int) ≤ v6 ∧ v6 ≤ (9223372036854775807 : Int)) ∧ ((-9223372036854775808 : Int) ≤ v7 ∧ v7 ≤ (9223372036854775807 : Int)) ∧ True := hr
  replace hp : True := hp
  show WordAll_fc_t.dn ⟨_, []⟩ 8 [v7, v6, v5, v4, v3, v2, v1, v0] 0 []
  rw [WordAll_fc_vc]
  show ((L2.yes L2.f_messuagelaw2_begun).rel.pre [] [] ∧ _)
  refine ⟨trivial, fun _ => ?_⟩
  simp only [fnSpec_post, fnSpec_pre, true_and, List.cons.injEq, and_true, List.getD_cons_zero, List.getD_cons_succ, and_imp]
  intro v8 v9 e8 e9 v10 v11 e10 e11
  subst e8 e9 e10 e11
  simp only [b2i, forall_eq]
  repeat' first | refine And.intro ?_ ?_ | intro _
  all_goals first | trivial | omega | grind)
theorem wordAll_holds0 : (lawSpec 8 [.agg L2.ks5, .one (.i .i64), .one (.i .i64), .one (.i .i64)]).Holds Tryz.prog L2.ro := holds_split 6 (by decide) (fun x hx => by
  have hx : ((-9223372036854775808) : Int) ≤ x ∧ x ≤ ((9223372036854775807) : Int) := hx (6, -9223372036854775808, 9223372036854775807) (by simp [lawSpec, PSt.add, FSpec.withRng, CK.lo, CK.hi, IntKind.min, IntKind.max, IntKind.bits, IntKind.signed]) rfl
  by_cases h0 : x ≤ (0)
  · exact ⟨(-9223372036854775808), (0), by omega, by omega, holds_split 1 (by decide) (fun x hx => by
    have hx : ((0) : Int) ≤ x ∧ x ≤ ((18446744073709551615) : Int) := hx (1, 0, 18446744073709551615) (by simp [lawSpec, PSt.add, FSpec.withRng, CK.lo, CK.hi, IntKind.min, IntKind.max, IntKind.bits, IntKind.signed]) rfl
    by_cases h0 : x ≤ (0)
    · exact ⟨(0), (0), by omega, by omega, wordAll_part_aa0⟩
    by_cases h1 : x ≤ (3)
    · exact ⟨(1), (3), by omega, by omega, wordAll_part_ab0⟩
    exact ⟨(4), (18446744073709551615), by omega, by omega, wordAll_part_ac0⟩)⟩
  by_cases h1 : x ≤ (1)
  · exact ⟨(1), (1), by omega, by omega, holds_split 1 (by decide) (fun x hx => by
    have hx : ((0) : Int) ≤ x ∧ x ≤ ((18446744073709551615) : Int) := hx (1, 0, 18446744073709551615) (by simp [lawSpec, PSt.add, FSpec.withRng, CK.lo, CK.hi, IntKind.min, IntKind.max, IntKind.bits, IntKind.signed]) rfl
    by_cases h0 : x ≤ (0)
    · exact ⟨(0), (0), by omega, by omega, wordAll_part_ba0⟩
    by_cases h1 : x ≤ (3)
    · exact ⟨(1), (3), by omega, by omega, wordAll_part_bb0⟩
    exact ⟨(4), (18446744073709551615), by omega, by omega, wordAll_part_bc0⟩)⟩
  by_cases h2 : x ≤ (2)
  · exact ⟨(2), (2), by omega, by omega, holds_split 1 (by decide) (fun x hx => by
    have hx : ((0) : Int) ≤ x ∧ x ≤ ((18446744073709551615) : Int) := hx (1, 0, 18446744073709551615) (by simp [lawSpec, PSt.add, FSpec.withRng, CK.lo, CK.hi, IntKind.min, IntKind.max, IntKind.bits, IntKind.signed]) rfl
    by_cases h0 : x ≤ (0)
    · exact ⟨(0), (0), by omega, by omega, wordAll_part_ca0⟩
    by_cases h1 : x ≤ (3)
    · exact ⟨(1), (3), by omega, by omega, wordAll_part_cb0⟩
    exact ⟨(4), (18446744073709551615), by omega, by omega, wordAll_part_cc0⟩)⟩
  by_cases h3 : x ≤ (3)
  · exact ⟨(3), (3), by omega, by omega, holds_split 1 (by decide) (fun x hx => by
    have hx : ((0) : Int) ≤ x ∧ x ≤ ((18446744073709551615) : Int) := hx (1, 0, 18446744073709551615) (by simp [lawSpec, PSt.add, FSpec.withRng, CK.lo, CK.hi, IntKind.min, IntKind.max, IntKind.bits, IntKind.signed]) rfl
    by_cases h0 : x ≤ (0)
    · exact ⟨(0), (0), by omega, by omega, wordAll_part_da0⟩
    by_cases h1 : x ≤ (3)
    · exact ⟨(1), (3), by omega, by omega, wordAll_part_db0⟩
    exact ⟨(4), (18446744073709551615), by omega, by omega, wordAll_part_dc0⟩)⟩
  by_cases h4 : x ≤ (4)
  · exact ⟨(4), (4), by omega, by omega, holds_split 1 (by decide) (fun x hx => by
    have hx : ((0) : Int) ≤ x ∧ x ≤ ((18446744073709551615) : Int) := hx (1, 0, 18446744073709551615) (by simp [lawSpec, PSt.add, FSpec.withRng, CK.lo, CK.hi, IntKind.min, IntKind.max, IntKind.bits, IntKind.signed]) rfl
    by_cases h0 : x ≤ (0)
    · exact ⟨(0), (0), by omega, by omega, wordAll_part_ea0⟩
    by_cases h1 : x ≤ (3)
    · exact ⟨(1), (3), by omega, by omega, wordAll_part_eb0⟩
    exact ⟨(4), (18446744073709551615), by omega, by omega, wordAll_part_ec0⟩)⟩
  exact ⟨(5), (9223372036854775807), by omega, by omega, holds_split 1 (by decide) (fun x hx => by
    have hx : ((0) : Int) ≤ x ∧ x ≤ ((18446744073709551615) : Int) := hx (1, 0, 18446744073709551615) (by simp [lawSpec, PSt.add, FSpec.withRng, CK.lo, CK.hi, IntKind.min, IntKind.max, IntKind.bits, IntKind.signed]) rfl
    by_cases h0 : x ≤ (0)
    · exact ⟨(0), (0), by omega, by omega, wordAll_part_fa0⟩
    by_cases h1 : x ≤ (3)
    · exact ⟨(1), (3), by omega, by omega, wordAll_part_fb0⟩
    exact ⟨(4), (18446744073709551615), by omega, by omega, wordAll_part_fc0⟩)⟩)
theorem wordAll_holds : ((lawSpec 8 [.agg L2.ks5, .one (.i .i64), .one (.i .i64), .one (.i .i64)]).withPre fun _ => True).Holds Tryz.prog L2.ro := holds_withPre _ wordAll_holds0

theorem wordAll_calls {H : Type} {enc : TypeId × Value → H} {W : World} {base : Nat} {args : Array Value} {ds : List (DataW H)} {p : List MemPlace} (hval : ∀ (j : Nat) t v, Tryz.f8.params[j]? = some t → args[j]? = some v → Value.okWide Tryz.prog W .any base t v)
    (hA : DataW.TrodAll enc Tryz.prog W 0 (fun _ => true) true Tryz.f8.params.toList args.toList ds p) (hL : laidMetH Tryz.prog laid1 W) : Calls Tryz.prog 8 args W fun e W' => e = .returned (.bool true) ∧ Go.Sx.Frame ⟨W, [], L2.ro⟩ W' := by
  rw [Tryz.params8] at hA hval
  obtain ⟨v0, v1, v2, v3, d0, d1, d2, d3, p0, p1, p2, p3, rfl, rfl, rfl, h0, h1, h2, h3⟩ := trodAll_four hA
  obtain ⟨e0, q0⟩ := par_flat (base := 0) (f := 9) (by first | exact agg26 | rw [und26]) flat26 (hval 0 26 v0 rfl rfl) h0
  obtain ⟨n1, q1⟩ := par_int (base := 0) und3 (hval 1 3 v1 rfl rfl) h1
  obtain ⟨n2, q2⟩ := par_int (base := 0) und3 (hval 2 3 v2 rfl rfl) h2
  obtain ⟨n3, q3⟩ := par_int (base := 0) und3 (hval 3 3 v3 rfl rfl) h3
  exact law_calls (wordAll_holds) Tryz.func8 (show Tryz.f8.body = some _ from rfl) (by kernel_rfl) (.cons q0 (.cons q1 (.cons q2 (.cons q3 .none)))) trivial (ro_of_laid hL)
set_option maxHeartbeats 1000000 in
theorem wordAll_lifted (os : Os) (started : os.Started) (H : Type) (enc : TypeId × Value → H) :
    ReturnsInHanded {} Tryz.checked os 8 .any (fun w args => (Rows.wordAllSpec.pre enc Tryz.prog Tryz.f8 [] false w args ∧ laidMetH Tryz.prog laid1 w) ∧ sizedMet enc Tryz.prog Tryz.f8 (OpenSpec.ofChange Rows.wordAllSpec) false w args)
      (Rows.wordAllSpec.post enc Tryz.prog Tryz.f8 false true false false) := by
  refine returnsInHanded_of_change_and (C := Tryz.checked) (X := fun w _ => laidMetH Tryz.prog laid1 w) (fun _ _ _ hh h => h.of_heap hh) Tryz.own started (by kernel_rfl) Tryz.func8
    (ChangeSpec.witness_at (enc := enc) (C := Tryz.checked) (os := os) (X := fun w _ => laidMetH Tryz.prog laid1 w) false (laidWorld os) #[.agg #[.int .u64 0, .int .u64 0, .int .u64 0, .int .u64 0, .int .u64 0], .int .i64 0, .int .i64 0, .int .i64 0] 8 rfl (by kernel_rfl) (by kernel_rfl) (by kernel_rfl) (by kernel_rfl) (by kernel_rfl) (laidWorld_met os _)) ?_
  intro W base args ds gs before hval0 hW _ _ hL _
  have hval : ∀ (j : Nat) t v, Tryz.f8.params[j]? = some t → args[j]? = some v → Value.okWide Tryz.prog W .any base t v := hval0
  have hW' := hW
  obtain ⟨p, q, hA0, hV0, rfl, hfz, hnd⟩ := hW
  have hcall := wordAll_calls (enc := enc) hval hA0 hL
  refine Calls.mono hcall ?_
  rintro e W' ⟨rfl, hfr⟩
  exact ⟨_, rfl, post_kept Tryz.laidOut (by kernel_rfl) rfl rfl und4 hW' hfr (by
    have hg : gs = [] := by cases gs with | nil => rfl | cons g r => exact absurd hV0 (by intro h; cases h)
    subst hg
    have hA1 : DataW.TrodAll enc Tryz.prog W 0 (fun _ => true) true Tryz.f8.params.toList args.toList ds p := hA0
    rw [Tryz.params8] at hA1
    obtain ⟨v0, v1, v2, v3, d0, d1, d2, d3, p0, p1, p2, p3, ea, rfl, ec, h0, h1, h2, h3⟩ := trodAll_four hA1
    rfl)⟩

theorem wordAll_row : Rows.WordAllSaid :=
  OpenClaim.holds_of_wide 8 Tryz.f8 rfl rfl rfl rfl rfl rfl rfl ⟨rfl, rfl, rfl, rfl, rfl⟩ rfl rfl rfl rfl rfl (by kernel_rfl) Tryz.func8 (restFacts.2 _ _ _ _ _ Tryz.mayEnter Tryz.liftsFinal Tryz.make (by kernel_rfl))
    (of_decide_eq_true (by kernel_rfl)) (by unfold Func.isWrapper; rw [if_neg (of_decide_eq_false (by kernel_rfl))]; exact ⟨rfl, rfl⟩)
    (fun os started H enc _ => wordAll_lifted os started H enc)
theorem wordAll_card : Rows.WordAllCardSaid :=
  Claim7.holds_tied_plain_at .later [] [.handle] true (true, "8c0441bbc8609432f713c1c89f5af20e6af72254f1482b9eed96a33066278ab6") true
    wordAll_row (fun _ h => by cases h) (by kernel_rfl) (fun _ h => by cases h) wordAll_row_tie rfl ⟨rfl, rfl⟩ Tryz.mainIs rfl
    (fun f fn hf hfn => by
      obtain rfl : f = 8 := Option.some.inj ((show Tryz.prog.funcNamed "messuage/messuagelaw2.WordAll" = some 8 by kernel_rfl).symm.trans hf) |>.symm
      obtain rfl : fn = Tryz.f8 := (Option.some.inj (Tryz.func8.symm.trans hfn)).symm
      exact ⟨by kernel_rfl, fun j t ht => by
        rw [Tryz.params8] at ht
        rcases j with _ | _ | _ | _ | j
        · obtain rfl : 26 = t := by simpa using ht
          exact (show Tryz.prog.wantsStandIn 26 = false by kernel_rfl)
        · obtain rfl : 3 = t := by simpa using ht
          exact (show Tryz.prog.wantsStandIn 3 = false by kernel_rfl)
        · obtain rfl : 3 = t := by simpa using ht
          exact (show Tryz.prog.wantsStandIn 3 = false by kernel_rfl)
        · obtain rfl : 3 = t := by simpa using ht
          exact (show Tryz.prog.wantsStandIn 3 = false by kernel_rfl)
        · simp at ht⟩)
    (by kernel_rfl)
#print axioms wordAll_card
end Go.Proofs.YthjfkblnbecjgaaGreatDoor
