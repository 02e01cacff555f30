/- A part of the proof of messuagelaw2.WordAll: some of the arguments' ranges. -/
import Derived.Test.YthjfkblnbecjgaaGreatDoorL2Kw
import Derived.Test.YthjfkblnbecjgaaGreatDoorL2Kg
import Derived.Test.YthjfkblnbecjgaaGreatDoorSxM7
set_option linter.unusedVariables false
set_option linter.unusedSimpArgs false
open Go Go.Sx
namespace Go.Proofs.YthjfkblnbecjgaaGreatDoor
open Go.ChangeShapes Go.WideShapes Go.RowKit
set_option maxRecDepth 100000

noncomputable def WordAll_da_t : Tree := .call 25 (Go.Sx.L2.yes L2.f_messuagelaw2_begun).rel [] [] 0 0 (.call 39 (Go.Sx.L2.kind_ 39).rel [.v 0, .v 1, .v 2, .v 3, .v 4] [] 2 0 (.call 40 (Go.Sx.L2.kind_ 40).rel [.v 0, .v 1, .v 2, .v 3, .v 4] [] 2 0 (.letI (.cmp .leq (.v 7) (.c 0)) (.ite (.v 12) (.letI (.cmp .eql (.v 8) (.v 10)) (.ite (.v 13) (.letI (.not (.v 9)) (.letI (.not (.v 11)) (.letI (.cmp .eql (.v 14) (.v 15)) (.ite (.v 16) (.call 43 (Go.Sx.L2.args_ 43).rel [.v 8] [] 1 0 (.call 44 (Go.Sx.L2.args_ 44).rel [.v 8] [] 1 0 (.letI (.cmp .eql (.v 17) (.v 18)) (.ite (.v 19) (.call 43 (Go.Sx.L2.args_ 43).rel [.v 6] [] 1 0 (.call 44 (Go.Sx.L2.args_ 44).rel [.v 6] [] 1 0 (.letI (.cmp .eql (.v 20) (.v 21)) (.ite (.v 22) (.call 26 (Go.Sx.L2.check_ 26).rel [.v 0, .v 1, .v 2, .v 3, .v 4, .v 5] [] 1 0 (.call 27 (Go.Sx.L2.check_ 27).rel [.v 0, .v 1, .v 2, .v 3, .v 4, .v 5] [] 1 0 (.letI (.cmp .eql (.v 23) (.v 24)) (.ite (.v 25) (.done [] []) (.fail 180))))) (.fail 180))))) (.fail 180))))) (.fail 180))))) (.fail 180))) (.letI (.cmp .leq (.v 7) (.v 3)) (.ite (.v 13) (.letI (.cmp .eql (.v 8) (.v 10)) (.ite (.v 14) (.letI (.not (.v 9)) (.letI (.not (.v 11)) (.letI (.cmp .eql (.v 15) (.v 16)) (.ite (.v 17) (.call 43 (Go.Sx.L2.args_ 43).rel [.v 8] [] 1 0 (.call 44 (Go.Sx.L2.args_ 44).rel [.v 8] [] 1 0 (.letI (.cmp .eql (.v 18) (.v 19)) (.ite (.v 20) (.call 43 (Go.Sx.L2.args_ 43).rel [.v 6] [] 1 0 (.call 44 (Go.Sx.L2.args_ 44).rel [.v 6] [] 1 0 (.letI (.cmp .eql (.v 21) (.v 22)) (.ite (.v 23) (.call 26 (Go.Sx.L2.check_ 26).rel [.v 0, .v 1, .v 2, .v 3, .v 4, .v 5] [] 1 0 (.call 27 (Go.Sx.L2.check_ 27).rel [.v 0, .v 1, .v 2, .v 3, .v 4, .v 5] [] 1 0 (.letI (.cmp .eql (.v 24) (.v 25)) (.ite (.v 26) (.done [] []) (.fail 180))))) (.fail 180))))) (.fail 180))))) (.fail 180))))) (.fail 180))) (.letI (.cmp .eql (.v 8) (.v 10)) (.ite (.v 14) (.letI (.not (.v 9)) (.letI (.not (.v 11)) (.letI (.cmp .eql (.v 15) (.v 16)) (.ite (.v 17) (.call 43 (Go.Sx.L2.args_ 43).rel [.v 8] [] 1 0 (.call 44 (Go.Sx.L2.args_ 44).rel [.v 8] [] 1 0 (.letI (.cmp .eql (.v 18) (.v 19)) (.ite (.v 20) (.call 43 (Go.Sx.L2.args_ 43).rel [.v 6] [] 1 0 (.call 44 (Go.Sx.L2.args_ 44).rel [.v 6] [] 1 0 (.letI (.cmp .eql (.v 21) (.v 22)) (.ite (.v 23) (.call 26 (Go.Sx.L2.check_ 26).rel [.v 0, .v 1, .v 2, .v 3, .v 4, .v 5] [] 1 0 (.call 27 (Go.Sx.L2.check_ 27).rel [.v 0, .v 1, .v 2, .v 3, .v 4, .v 5] [] 1 0 (.letI (.cmp .eql (.v 24) (.v 25)) (.ite (.v 26) (.done [] []) (.fail 180))))) (.fail 180))))) (.fail 180))))) (.fail 180))))) (.fail 180)))))))))
theorem WordAll_da_tree : (((lawSpec 8 [.agg L2.ks5, .one (.i .i64), .one (.i .i64), .one (.i .i64)]).withRng 6 (3) (3)).withRng 1 (0) (0)).exe Tryz.prog (withS (L2.cfg2 Tryz.prog) [L2.kind_ 39, L2.kind_ 40, L2.check_ 26, L2.check_ 27, L2.args_ 43, L2.args_ 44, L2.within_ 56, L2.within_ 57, L2.lets_ 58, L2.lets_ 59, L2.put_ 52, L2.put_ 77, L2.get_ 53, L2.get_ 78]) [] 20 200 = WordAll_da_t := by kernel_rfl
theorem WordAll_da_vc (Q : List Int → List (List Int) → Prop) (v0 v1 v2 v3 v4 v5 v6 v7 : Int) : WordAll_da_t.dn ⟨Q, []⟩ 8 [v7, v6, v5, v4, v3, v2, v1, v0] 0 [] = ((Go.Sx.L2.yes L2.f_messuagelaw2_begun).rel.pre [] [] ∧
((Go.Sx.L2.yes L2.f_messuagelaw2_begun).rel.post [] [] [] [] → (Go.Sx.L2.kind_ 39).rel.pre [v0, v1, v2, v3, v4] [] ∧
(∀ v8 : Int, ∀ v9 : Int, (Go.Sx.L2.kind_ 39).rel.post [v0, v1, v2, v3, v4] [] [v8, v9] [] → (Go.Sx.L2.kind_ 40).rel.pre [v0, v1, v2, v3, v4] [] ∧
(∀ v10 : Int, ∀ v11 : Int, (Go.Sx.L2.kind_ 40).rel.post [v0, v1, v2, v3, v4] [] [v10, v11] [] → ((v7 ≤ (0 : Int)) → ((v8 = v10) → ∀ v14 : Int, v14 = b2i (v9 == 0) → ∀ v15 : Int, v15 = b2i (v11 == 0) → ((v14 = v15) → (Go.Sx.L2.args_ 43).rel.pre [v8] [] ∧
(∀ v17 : Int, (Go.Sx.L2.args_ 43).rel.post [v8] [] [v17] [] → (Go.Sx.L2.args_ 44).rel.pre [v8] [] ∧
(∀ v18 : Int, (Go.Sx.L2.args_ 44).rel.post [v8] [] [v18] [] → ((v17 = v18) → (Go.Sx.L2.args_ 43).rel.pre [v6] [] ∧
(∀ v20 : Int, (Go.Sx.L2.args_ 43).rel.post [v6] [] [v20] [] → (Go.Sx.L2.args_ 44).rel.pre [v6] [] ∧
(∀ v21 : Int, (Go.Sx.L2.args_ 44).rel.post [v6] [] [v21] [] → ((v20 = v21) → (Go.Sx.L2.check_ 26).rel.pre [v0, v1, v2, v3, v4, v5] [] ∧
(∀ v23 : Int, (Go.Sx.L2.check_ 26).rel.post [v0, v1, v2, v3, v4, v5] [] [v23] [] → (Go.Sx.L2.check_ 27).rel.pre [v0, v1, v2, v3, v4, v5] [] ∧
(∀ v24 : Int, (Go.Sx.L2.check_ 27).rel.post [v0, v1, v2, v3, v4, v5] [] [v24] [] → ((v23 = v24) → Q [] []) ∧
((v23 ≠ v24) → False)))) ∧
((v20 ≠ v21) → False)))) ∧
((v17 ≠ v18) → False)))) ∧
((v14 ≠ v15) → False)) ∧
((v8 ≠ v10) → False)) ∧
(((0 : Int) < v7) → ((v7 ≤ v3) → ((v8 = v10) → ∀ v15 : Int, v15 = b2i (v9 == 0) → ∀ v16 : Int, v16 = b2i (v11 == 0) → ((v15 = v16) → (Go.Sx.L2.args_ 43).rel.pre [v8] [] ∧
(∀ v18 : Int, (Go.Sx.L2.args_ 43).rel.post [v8] [] [v18] [] → (Go.Sx.L2.args_ 44).rel.pre [v8] [] ∧
(∀ v19 : Int, (Go.Sx.L2.args_ 44).rel.post [v8] [] [v19] [] → ((v18 = v19) → (Go.Sx.L2.args_ 43).rel.pre [v6] [] ∧
(∀ v21 : Int, (Go.Sx.L2.args_ 43).rel.post [v6] [] [v21] [] → (Go.Sx.L2.args_ 44).rel.pre [v6] [] ∧
(∀ v22 : Int, (Go.Sx.L2.args_ 44).rel.post [v6] [] [v22] [] → ((v21 = v22) → (Go.Sx.L2.check_ 26).rel.pre [v0, v1, v2, v3, v4, v5] [] ∧
(∀ v24 : Int, (Go.Sx.L2.check_ 26).rel.post [v0, v1, v2, v3, v4, v5] [] [v24] [] → (Go.Sx.L2.check_ 27).rel.pre [v0, v1, v2, v3, v4, v5] [] ∧
(∀ v25 : Int, (Go.Sx.L2.check_ 27).rel.post [v0, v1, v2, v3, v4, v5] [] [v25] [] → ((v24 = v25) → Q [] []) ∧
((v24 ≠ v25) → False)))) ∧
((v21 ≠ v22) → False)))) ∧
((v18 ≠ v19) → False)))) ∧
((v15 ≠ v16) → False)) ∧
((v8 ≠ v10) → False)) ∧
((v3 < v7) → ((v8 = v10) → ∀ v15 : Int, v15 = b2i (v9 == 0) → ∀ v16 : Int, v16 = b2i (v11 == 0) → ((v15 = v16) → (Go.Sx.L2.args_ 43).rel.pre [v8] [] ∧
(∀ v18 : Int, (Go.Sx.L2.args_ 43).rel.post [v8] [] [v18] [] → (Go.Sx.L2.args_ 44).rel.pre [v8] [] ∧
(∀ v19 : Int, (Go.Sx.L2.args_ 44).rel.post [v8] [] [v19] [] → ((v18 = v19) → (Go.Sx.L2.args_ 43).rel.pre [v6] [] ∧
(∀ v21 : Int, (Go.Sx.L2.args_ 43).rel.post [v6] [] [v21] [] → (Go.Sx.L2.args_ 44).rel.pre [v6] [] ∧
(∀ v22 : Int, (Go.Sx.L2.args_ 44).rel.post [v6] [] [v22] [] → ((v21 = v22) → (Go.Sx.L2.check_ 26).rel.pre [v0, v1, v2, v3, v4, v5] [] ∧
(∀ v24 : Int, (Go.Sx.L2.check_ 26).rel.post [v0, v1, v2, v3, v4, v5] [] [v24] [] → (Go.Sx.L2.check_ 27).rel.pre [v0, v1, v2, v3, v4, v5] [] ∧
(∀ v25 : Int, (Go.Sx.L2.check_ 27).rel.post [v0, v1, v2, v3, v4, v5] [] [v25] [] → ((v24 = v25) → Q [] []) ∧
((v24 ≠ v25) → False)))) ∧
((v21 ≠ v22) → False)))) ∧
((v18 ≠ v19) → False)))) ∧
((v15 ≠ v16) → False)) ∧
((v8 ≠ v10) → False))))))) := by kernel_rfl
set_option maxHeartbeats 4000000 in
theorem wordAll_part_da0 : (((lawSpec 8 [.agg L2.ks5, .one (.i .i64), .one (.i .i64), .one (.i .i64)]).withRng 6 (3) (3)).withRng 1 (0) (0)).Holds Tryz.prog L2.ro := FSpec.holdsV (cfg := withS (L2.cfg2 Tryz.prog) [L2.kind_ 39, L2.kind_ 40, L2.check_ 26, L2.check_ 27, L2.args_ 43, L2.args_ 44, L2.within_ 56, L2.within_ 57, L2.lets_ 58, L2.lets_ 59, L2.put_ 52, L2.put_ 77, L2.get_ 53, L2.get_ 78]) [] 20 200 (withS_ok cfg2_ok ⟨wKind_holds, rKind_holds, wCheck_holds, rCheck_holds, wArgs_holds, rArgs_holds, pWithin_holds, rWithin_holds, pLets_holds, rLets_holds, pPut_holds, rPte_holds, pGet_holds, rGet_holds, trivial⟩) mixed (t := WordAll_da_t) WordAll_da_tree (by
  show ∀ (v0 v1 v2 v3 v4 v5 v6 v7 : Int) , _
  intro v0 v1 v2 v3 v4 v5 v6 v7  hp hr hl
  replace hr : (((0) : Int) ≤ v1 ∧ v1 ≤ ((0) : Int)) ∧ (((3) : Int) ≤ v6 ∧ v6 ≤ ((3) : Int)) ∧ ((0 : Int) ≤ v0 ∧ v0 ≤ (18446744073709551615 : Int)) ∧ ((0 : Int) ≤ v1 ∧ v1 ≤ (18446744073709551615 : Int)) ∧ ((0 : Int) ≤ v2 ∧ v2 ≤ (18446744073709551615 : Int)) ∧ ((0 : Int) ≤ v3 ∧ v3 ≤ (18446744073709551615 : Int)) ∧ ((0 : Int) ≤ v4 ∧ v4 ≤ (18446744073709551615 : Int)) ∧ ((-9223372036854775808 : Int) ≤ v5 ∧ v5 ≤ (9223372036854775807 : Int)) ∧ ((-9223372036854775808 : Int) ≤ v6 ∧ v6 ≤ (9223372036854775807 : Int)) ∧ ((-9223372036854775808 : Int) ≤ v7 ∧ v7 ≤ (9223372036854775807 : Int)) ∧ True := hr
  replace hp : True := hp
  show WordAll_da_t.dn ⟨_, []⟩ 8 [v7, v6, v5, v4, v3, v2, v1, v0] 0 []
  rw [WordAll_da_vc]
  show ((L2.yes L2.f_messuagelaw2_begun).rel.pre [] [] ∧ _)
  refine ⟨trivial, fun _ => ?_⟩
  simp only [fnSpec_post, fnSpec_pre, true_and, List.cons.injEq, and_true, List.getD_cons_zero, List.getD_cons_succ, and_imp]
  intro v8 v9 e8 e9 v10 v11 e10 e11
  subst e8 e9 e10 e11
  simp only [b2i, forall_eq]
  repeat' first | refine And.intro ?_ ?_ | intro _
  all_goals first | trivial | omega | grind)

noncomputable def WordAll_db_t : Tree := .call 25 (Go.Sx.L2.yes L2.f_messuagelaw2_begun).rel [] [] 0 0 (.call 39 (Go.Sx.L2.kind_ 39).rel [.v 0, .v 1, .v 2, .v 3, .v 4] [] 2 0 (.call 40 (Go.Sx.L2.kind_ 40).rel [.v 0, .v 1, .v 2, .v 3, .v 4] [] 2 0 (.letI (.cmp .leq (.v 7) (.c 0)) (.ite (.v 12) (.letI (.cmp .eql (.v 8) (.v 10)) (.ite (.v 13) (.letI (.not (.v 9)) (.letI (.not (.v 11)) (.letI (.cmp .eql (.v 14) (.v 15)) (.ite (.v 16) (.call 43 (Go.Sx.L2.args_ 43).rel [.v 8] [] 1 0 (.call 44 (Go.Sx.L2.args_ 44).rel [.v 8] [] 1 0 (.letI (.cmp .eql (.v 17) (.v 18)) (.ite (.v 19) (.call 43 (Go.Sx.L2.args_ 43).rel [.v 6] [] 1 0 (.call 44 (Go.Sx.L2.args_ 44).rel [.v 6] [] 1 0 (.letI (.cmp .eql (.v 20) (.v 21)) (.ite (.v 22) (.call 26 (Go.Sx.L2.check_ 26).rel [.v 0, .v 1, .v 2, .v 3, .v 4, .v 5] [] 1 0 (.call 27 (Go.Sx.L2.check_ 27).rel [.v 0, .v 1, .v 2, .v 3, .v 4, .v 5] [] 1 0 (.letI (.cmp .eql (.v 23) (.v 24)) (.ite (.v 25) (.done [] []) (.fail 180))))) (.fail 180))))) (.fail 180))))) (.fail 180))))) (.fail 180))) (.letI (.cmp .leq (.v 7) (.v 3)) (.ite (.v 13) (.letI (.cmp .eql (.v 8) (.v 10)) (.ite (.v 14) (.letI (.not (.v 9)) (.letI (.not (.v 11)) (.letI (.cmp .eql (.v 15) (.v 16)) (.ite (.v 17) (.call 43 (Go.Sx.L2.args_ 43).rel [.v 8] [] 1 0 (.call 44 (Go.Sx.L2.args_ 44).rel [.v 8] [] 1 0 (.letI (.cmp .eql (.v 18) (.v 19)) (.ite (.v 20) (.call 43 (Go.Sx.L2.args_ 43).rel [.v 6] [] 1 0 (.call 44 (Go.Sx.L2.args_ 44).rel [.v 6] [] 1 0 (.letI (.cmp .eql (.v 21) (.v 22)) (.ite (.v 23) (.call 26 (Go.Sx.L2.check_ 26).rel [.v 0, .v 1, .v 2, .v 3, .v 4, .v 5] [] 1 0 (.call 27 (Go.Sx.L2.check_ 27).rel [.v 0, .v 1, .v 2, .v 3, .v 4, .v 5] [] 1 0 (.letI (.cmp .eql (.v 24) (.v 25)) (.ite (.v 26) (.done [] []) (.fail 180))))) (.fail 180))))) (.fail 180))))) (.fail 180))))) (.fail 180))) (.letI (.cmp .eql (.v 8) (.v 10)) (.ite (.v 14) (.letI (.not (.v 9)) (.letI (.not (.v 11)) (.letI (.cmp .eql (.v 15) (.v 16)) (.ite (.v 17) (.call 43 (Go.Sx.L2.args_ 43).rel [.v 8] [] 1 0 (.call 44 (Go.Sx.L2.args_ 44).rel [.v 8] [] 1 0 (.letI (.cmp .eql (.v 18) (.v 19)) (.ite (.v 20) (.call 43 (Go.Sx.L2.args_ 43).rel [.v 6] [] 1 0 (.call 44 (Go.Sx.L2.args_ 44).rel [.v 6] [] 1 0 (.letI (.cmp .eql (.v 21) (.v 22)) (.ite (.v 23) (.call 26 (Go.Sx.L2.check_ 26).rel [.v 0, .v 1, .v 2, .v 3, .v 4, .v 5] [] 1 0 (.call 27 (Go.Sx.L2.check_ 27).rel [.v 0, .v 1, .v 2, .v 3, .v 4, .v 5] [] 1 0 (.letI (.cmp .eql (.v 24) (.v 25)) (.ite (.v 26) (.done [] []) (.fail 180))))) (.fail 180))))) (.fail 180))))) (.fail 180))))) (.fail 180)))))))))
theorem WordAll_db_tree : (((lawSpec 8 [.agg L2.ks5, .one (.i .i64), .one (.i .i64), .one (.i .i64)]).withRng 6 (3) (3)).withRng 1 (1) (3)).exe Tryz.prog (withS (L2.cfg2 Tryz.prog) [L2.kind_ 39, L2.kind_ 40, L2.check_ 26, L2.check_ 27, L2.args_ 43, L2.args_ 44, L2.within_ 56, L2.within_ 57, L2.lets_ 58, L2.lets_ 59, L2.put_ 52, L2.put_ 77, L2.get_ 53, L2.get_ 78]) [] 20 200 = WordAll_db_t := by kernel_rfl
theorem WordAll_db_vc (Q : List Int → List (List Int) → Prop) (v0 v1 v2 v3 v4 v5 v6 v7 : Int) : WordAll_db_t.dn ⟨Q, []⟩ 8 [v7, v6, v5, v4, v3, v2, v1, v0] 0 [] = ((Go.Sx.L2.yes L2.f_messuagelaw2_begun).rel.pre [] [] ∧
((Go.Sx.L2.yes L2.f_messuagelaw2_begun).rel.post [] [] [] [] → (Go.Sx.L2.kind_ 39).rel.pre [v0, v1, v2, v3, v4] [] ∧
(∀ v8 : Int, ∀ v9 : Int, (Go.Sx.L2.kind_ 39).rel.post [v0, v1, v2, v3, v4] [] [v8, v9] [] → (Go.Sx.L2.kind_ 40).rel.pre [v0, v1, v2, v3, v4] [] ∧
(∀ v10 : Int, ∀ v11 : Int, (Go.Sx.L2.kind_ 40).rel.post [v0, v1, v2, v3, v4] [] [v10, v11] [] → ((v7 ≤ (0 : Int)) → ((v8 = v10) → ∀ v14 : Int, v14 = b2i (v9 == 0) → ∀ v15 : Int, v15 = b2i (v11 == 0) → ((v14 = v15) → (Go.Sx.L2.args_ 43).rel.pre [v8] [] ∧
(∀ v17 : Int, (Go.Sx.L2.args_ 43).rel.post [v8] [] [v17] [] → (Go.Sx.L2.args_ 44).rel.pre [v8] [] ∧
(∀ v18 : Int, (Go.Sx.L2.args_ 44).rel.post [v8] [] [v18] [] → ((v17 = v18) → (Go.Sx.L2.args_ 43).rel.pre [v6] [] ∧
(∀ v20 : Int, (Go.Sx.L2.args_ 43).rel.post [v6] [] [v20] [] → (Go.Sx.L2.args_ 44).rel.pre [v6] [] ∧
(∀ v21 : Int, (Go.Sx.L2.args_ 44).rel.post [v6] [] [v21] [] → ((v20 = v21) → (Go.Sx.L2.check_ 26).rel.pre [v0, v1, v2, v3, v4, v5] [] ∧
(∀ v23 : Int, (Go.Sx.L2.check_ 26).rel.post [v0, v1, v2, v3, v4, v5] [] [v23] [] → (Go.Sx.L2.check_ 27).rel.pre [v0, v1, v2, v3, v4, v5] [] ∧
(∀ v24 : Int, (Go.Sx.L2.check_ 27).rel.post [v0, v1, v2, v3, v4, v5] [] [v24] [] → ((v23 = v24) → Q [] []) ∧
((v23 ≠ v24) → False)))) ∧
((v20 ≠ v21) → False)))) ∧
((v17 ≠ v18) → False)))) ∧
((v14 ≠ v15) → False)) ∧
((v8 ≠ v10) → False)) ∧
(((0 : Int) < v7) → ((v7 ≤ v3) → ((v8 = v10) → ∀ v15 : Int, v15 = b2i (v9 == 0) → ∀ v16 : Int, v16 = b2i (v11 == 0) → ((v15 = v16) → (Go.Sx.L2.args_ 43).rel.pre [v8] [] ∧
(∀ v18 : Int, (Go.Sx.L2.args_ 43).rel.post [v8] [] [v18] [] → (Go.Sx.L2.args_ 44).rel.pre [v8] [] ∧
(∀ v19 : Int, (Go.Sx.L2.args_ 44).rel.post [v8] [] [v19] [] → ((v18 = v19) → (Go.Sx.L2.args_ 43).rel.pre [v6] [] ∧
(∀ v21 : Int, (Go.Sx.L2.args_ 43).rel.post [v6] [] [v21] [] → (Go.Sx.L2.args_ 44).rel.pre [v6] [] ∧
(∀ v22 : Int, (Go.Sx.L2.args_ 44).rel.post [v6] [] [v22] [] → ((v21 = v22) → (Go.Sx.L2.check_ 26).rel.pre [v0, v1, v2, v3, v4, v5] [] ∧
(∀ v24 : Int, (Go.Sx.L2.check_ 26).rel.post [v0, v1, v2, v3, v4, v5] [] [v24] [] → (Go.Sx.L2.check_ 27).rel.pre [v0, v1, v2, v3, v4, v5] [] ∧
(∀ v25 : Int, (Go.Sx.L2.check_ 27).rel.post [v0, v1, v2, v3, v4, v5] [] [v25] [] → ((v24 = v25) → Q [] []) ∧
((v24 ≠ v25) → False)))) ∧
((v21 ≠ v22) → False)))) ∧
((v18 ≠ v19) → False)))) ∧
((v15 ≠ v16) → False)) ∧
((v8 ≠ v10) → False)) ∧
((v3 < v7) → ((v8 = v10) → ∀ v15 : Int, v15 = b2i (v9 == 0) → ∀ v16 : Int, v16 = b2i (v11 == 0) → ((v15 = v16) → (Go.Sx.L2.args_ 43).rel.pre [v8] [] ∧
(∀ v18 : Int, (Go.Sx.L2.args_ 43).rel.post [v8] [] [v18] [] → (Go.Sx.L2.args_ 44).rel.pre [v8] [] ∧
(∀ v19 : Int, (Go.Sx.L2.args_ 44).rel.post [v8] [] [v19] [] → ((v18 = v19) → (Go.Sx.L2.args_ 43).rel.pre [v6] [] ∧
(∀ v21 : Int, (Go.Sx.L2.args_ 43).rel.post [v6] [] [v21] [] → (Go.Sx.L2.args_ 44).rel.pre [v6] [] ∧
(∀ v22 : Int, (Go.Sx.L2.args_ 44).rel.post [v6] [] [v22] [] → ((v21 = v22) → (Go.Sx.L2.check_ 26).rel.pre [v0, v1, v2, v3, v4, v5] [] ∧
(∀ v24 : Int, (Go.Sx.L2.check_ 26).rel.post [v0, v1, v2, v3, v4, v5] [] [v24] [] → (Go.Sx.L2.check_ 27).rel.pre [v0, v1, v2, v3, v4, v5] [] ∧
(∀ v25 : Int, (Go.Sx.L2.check_ 27).rel.post [v0, v1, v2, v3, v4, v5] [] [v25] [] → ((v24 = v25) → Q [] []) ∧
((v24 ≠ v25) → False)))) ∧
((v21 ≠ v22) → False)))) ∧
((v18 ≠ v19) → False)))) ∧
((v15 ≠ v16) → False)) ∧
((v8 ≠ v10) → False))))))) := by kernel_rfl
set_option maxHeartbeats 4000000 in
theorem wordAll_part_db0 : (((lawSpec 8 [.agg L2.ks5, .one (.i .i64), .one (.i .i64), .one (.i .i64)]).withRng 6 (3) (3)).withRng 1 (1) (3)).Holds Tryz.prog L2.ro := FSpec.holdsV (cfg := withS (L2.cfg2 Tryz.prog) [L2.kind_ 39, L2.kind_ 40, L2.check_ 26, L2.check_ 27, L2.args_ 43, L2.args_ 44, L2.within_ 56, L2.within_ 57, L2.lets_ 58, L2.lets_ 59, L2.put_ 52, L2.put_ 77, L2.get_ 53, L2.get_ 78]) [] 20 200 (withS_ok cfg2_ok ⟨wKind_holds, rKind_holds, wCheck_holds, rCheck_holds, wArgs_holds, rArgs_holds, pWithin_holds, rWithin_holds, pLets_holds, rLets_holds, pPut_holds, rPte_holds, pGet_holds, rGet_holds, trivial⟩) mixed (t := WordAll_db_t) WordAll_db_tree (by
  show ∀ (v0 v1 v2 v3 v4 v5 v6 v7 : Int) , _
  intro v0 v1 v2 v3 v4 v5 v6 v7  hp hr hl
  replace hr : (((1) : Int) ≤ v1 ∧ v1 ≤ ((3) : Int)) ∧ (((3) : Int) ≤ v6 ∧ v6 ≤ ((3) : Int)) ∧ ((0 : Int) ≤ v0 ∧ v0 ≤ (18446744073709551615 : Int)) ∧ ((0 : Int) ≤ v1 ∧ v1 ≤ (18446744073709551615 : Int)) ∧ ((0 : Int) ≤ v2 ∧ v2 ≤ (18446744073709551615 : Int)) ∧ ((0 : Int) ≤ v3 ∧ v3 ≤ (18446744073709551615 : Int)) ∧ ((0 : Int) ≤ v4 ∧ v4 ≤ (18446744073709551615 : Int)) ∧ ((-9223372036854775808 : Int) ≤ v5 ∧ v5 ≤ (9223372036854775807 : Int)) ∧ ((-9223372036854775808 : Int) ≤ v6 ∧ v6 ≤ (9223372036854775807 : Int)) ∧ ((-9223372036854775808 : Int) ≤ v7 ∧ v7 ≤ (9223372036854775807 : Int)) ∧ True := hr
  replace hp : True := hp
  show WordAll_db_t.dn ⟨_, []⟩ 8 [v7, v6, v5, v4, v3, v2, v1, v0] 0 []
  rw [WordAll_db_vc]
  show ((L2.yes L2.f_messuagelaw2_begun).rel.pre [] [] ∧ _)
  refine ⟨trivial, fun _ => ?_⟩
  simp only [fnSpec_post, fnSpec_pre, true_and, List.cons.injEq, and_true, List.getD_cons_zero, List.getD_cons_succ, and_imp]
  intro v8 v9 e8 e9 v10 v11 e10 e11
  subst e8 e9 e10 e11
  simp only [b2i, forall_eq]
  repeat' first | refine And.intro ?_ ?_ | intro _
  all_goals first | trivial | omega | grind)

noncomputable def WordAll_dc_t : Tree := .call 25 (Go.Sx.L2.yes L2.f_messuagelaw2_begun).rel [] [] 0 0 (.call 39 (Go.Sx.L2.kind_ 39).rel [.v 0, .v 1, .v 2, .v 3, .v 4] [] 2 0 (.call 40 (Go.Sx.L2.kind_ 40).rel [.v 0, .v 1, .v 2, .v 3, .v 4] [] 2 0 (.letI (.cmp .leq (.v 7) (.c 0)) (.ite (.v 12) (.letI (.cmp .eql (.v 8) (.v 10)) (.ite (.v 13) (.letI (.not (.v 9)) (.letI (.not (.v 11)) (.letI (.cmp .eql (.v 14) (.v 15)) (.ite (.v 16) (.call 43 (Go.Sx.L2.args_ 43).rel [.v 8] [] 1 0 (.call 44 (Go.Sx.L2.args_ 44).rel [.v 8] [] 1 0 (.letI (.cmp .eql (.v 17) (.v 18)) (.ite (.v 19) (.call 43 (Go.Sx.L2.args_ 43).rel [.v 6] [] 1 0 (.call 44 (Go.Sx.L2.args_ 44).rel [.v 6] [] 1 0 (.letI (.cmp .eql (.v 20) (.v 21)) (.ite (.v 22) (.call 26 (Go.Sx.L2.check_ 26).rel [.v 0, .v 1, .v 2, .v 3, .v 4, .v 5] [] 1 0 (.call 27 (Go.Sx.L2.check_ 27).rel [.v 0, .v 1, .v 2, .v 3, .v 4, .v 5] [] 1 0 (.letI (.cmp .eql (.v 23) (.v 24)) (.ite (.v 25) (.done [] []) (.fail 180))))) (.fail 180))))) (.fail 180))))) (.fail 180))))) (.fail 180))) (.letI (.cmp .leq (.v 7) (.v 3)) (.ite (.v 13) (.letI (.cmp .eql (.v 8) (.v 10)) (.ite (.v 14) (.letI (.not (.v 9)) (.letI (.not (.v 11)) (.letI (.cmp .eql (.v 15) (.v 16)) (.ite (.v 17) (.call 43 (Go.Sx.L2.args_ 43).rel [.v 8] [] 1 0 (.call 44 (Go.Sx.L2.args_ 44).rel [.v 8] [] 1 0 (.letI (.cmp .eql (.v 18) (.v 19)) (.ite (.v 20) (.call 43 (Go.Sx.L2.args_ 43).rel [.v 6] [] 1 0 (.call 44 (Go.Sx.L2.args_ 44).rel [.v 6] [] 1 0 (.letI (.cmp .eql (.v 21) (.v 22)) (.ite (.v 23) (.call 26 (Go.Sx.L2.check_ 26).rel [.v 0, .v 1, .v 2, .v 3, .v 4, .v 5] [] 1 0 (.call 27 (Go.Sx.L2.check_ 27).rel [.v 0, .v 1, .v 2, .v 3, .v 4, .v 5] [] 1 0 (.letI (.cmp .eql (.v 24) (.v 25)) (.ite (.v 26) (.done [] []) (.fail 180))))) (.fail 180))))) (.fail 180))))) (.fail 180))))) (.fail 180))) (.letI (.cmp .eql (.v 8) (.v 10)) (.ite (.v 14) (.letI (.not (.v 9)) (.letI (.not (.v 11)) (.letI (.cmp .eql (.v 15) (.v 16)) (.ite (.v 17) (.call 43 (Go.Sx.L2.args_ 43).rel [.v 8] [] 1 0 (.call 44 (Go.Sx.L2.args_ 44).rel [.v 8] [] 1 0 (.letI (.cmp .eql (.v 18) (.v 19)) (.ite (.v 20) (.call 43 (Go.Sx.L2.args_ 43).rel [.v 6] [] 1 0 (.call 44 (Go.Sx.L2.args_ 44).rel [.v 6] [] 1 0 (.letI (.cmp .eql (.v 21) (.v 22)) (.ite (.v 23) (.call 26 (Go.Sx.L2.check_ 26).rel [.v 0, .v 1, .v 2, .v 3, .v 4, .v 5] [] 1 0 (.call 27 (Go.Sx.L2.check_ 27).rel [.v 0, .v 1, .v 2, .v 3, .v 4, .v 5] [] 1 0 (.letI (.cmp .eql (.v 24) (.v 25)) (.ite (.v 26) (.done [] []) (.fail 180))))) (.fail 180))))) (.fail 180))))) (.fail 180))))) (.fail 180)))))))))
theorem WordAll_dc_tree : (((lawSpec 8 [.agg L2.ks5, .one (.i .i64), .one (.i .i64), .one (.i .i64)]).withRng 6 (3) (3)).withRng 1 (4) (18446744073709551615)).exe Tryz.prog (withS (L2.cfg2 Tryz.prog) [L2.kind_ 39, L2.kind_ 40, L2.check_ 26, L2.check_ 27, L2.args_ 43, L2.args_ 44, L2.within_ 56, L2.within_ 57, L2.lets_ 58, L2.lets_ 59, L2.put_ 52, L2.put_ 77, L2.get_ 53, L2.get_ 78]) [] 20 200 = WordAll_dc_t := by kernel_rfl
theorem WordAll_dc_vc (Q : List Int → List (List Int) → Prop) (v0 v1 v2 v3 v4 v5 v6 v7 : Int) : WordAll_dc_t.dn ⟨Q, []⟩ 8 [v7, v6, v5, v4, v3, v2, v1, v0] 0 [] = ((Go.Sx.L2.yes L2.f_messuagelaw2_begun).rel.pre [] [] ∧
((Go.Sx.L2.yes L2.f_messuagelaw2_begun).rel.post [] [] [] [] → (Go.Sx.L2.kind_ 39).rel.pre [v0, v1, v2, v3, v4] [] ∧
(∀ v8 : Int, ∀ v9 : Int, (Go.Sx.L2.kind_ 39).rel.post [v0, v1, v2, v3, v4] [] [v8, v9] [] → (Go.Sx.L2.kind_ 40).rel.pre [v0, v1, v2, v3, v4] [] ∧
(∀ v10 : Int, ∀ v11 : Int, (Go.Sx.L2.kind_ 40).rel.post [v0, v1, v2, v3, v4] [] [v10, v11] [] → ((v7 ≤ (0 : Int)) → ((v8 = v10) → ∀ v14 : Int, v14 = b2i (v9 == 0) → ∀ v15 : Int, v15 = b2i (v11 == 0) → ((v14 = v15) → (Go.Sx.L2.args_ 43).rel.pre [v8] [] ∧
(∀ v17 : Int, (Go.Sx.L2.args_ 43).rel.post [v8] [] [v17] [] → (Go.Sx.L2.args_ 44).rel.pre [v8] [] ∧
(∀ v18 : Int, (Go.Sx.L2.args_ 44).rel.post [v8] [] [v18] [] → ((v17 = v18) → (Go.Sx.L2.args_ 43).rel.pre [v6] [] ∧
(∀ v20 : Int, (Go.Sx.L2.args_ 43).rel.post [v6] [] [v20] [] → (Go.Sx.L2.args_ 44).rel.pre [v6] [] ∧
(∀ v21 : Int, (Go.Sx.L2.args_ 44).rel.post [v6] [] [v21] [] → ((v20 = v21) → (Go.Sx.L2.check_ 26).rel.pre [v0, v1, v2, v3, v4, v5] [] ∧
(∀ v23 : Int, (Go.Sx.L2.check_ 26).rel.post [v0, v1, v2, v3, v4, v5] [] [v23] [] → (Go.Sx.L2.check_ 27).rel.pre [v0, v1, v2, v3, v4, v5] [] ∧
(∀ v24 : Int, (Go.Sx.L2.check_ 27).rel.post [v0, v1, v2, v3, v4, v5] [] [v24] [] → ((v23 = v24) → Q [] []) ∧
((v23 ≠ v24) → False)))) ∧
((v20 ≠ v21) → False)))) ∧
((v17 ≠ v18) → False)))) ∧
((v14 ≠ v15) → False)) ∧
((v8 ≠ v10) → False)) ∧
(((0 : Int) < v7) → ((v7 ≤ v3) → ((v8 = v10) → ∀ v15 : Int, v15 = b2i (v9 == 0) → ∀ v16 : Int, v16 = b2i (v11 == 0) → ((v15 = v16) → (Go.Sx.L2.args_ 43).rel.pre [v8] [] ∧
(∀ v18 : Int, (Go.Sx.L2.args_ 43).rel.post [v8] [] [v18] [] → (Go.Sx.L2.args_ 44).rel.pre [v8] [] ∧
(∀ v19 : Int, (Go.Sx.L2.args_ 44).rel.post [v8] [] [v19] [] → ((v18 = v19) → (Go.Sx.L2.args_ 43).rel.pre [v6] [] ∧
(∀ v21 : Int, (Go.Sx.L2.args_ 43).rel.post [v6] [] [v21] [] → (Go.Sx.L2.args_ 44).rel.pre [v6] [] ∧
(∀ v22 : Int, (Go.Sx.L2.args_ 44).rel.post [v6] [] [v22] [] → ((v21 = v22) → (Go.Sx.L2.check_ 26).rel.pre [v0, v1, v2, v3, v4, v5] [] ∧
(∀ v24 : Int, (Go.Sx.L2.check_ 26).rel.post [v0, v1, v2, v3, v4, v5] [] [v24] [] → (Go.Sx.L2.check_ 27).rel.pre [v0, v1, v2, v3, v4, v5] [] ∧
(∀ v25 : Int, (Go.Sx.L2.check_ 27).rel.post [v0, v1, v2, v3, v4, v5] [] [v25] [] → ((v24 = v25) → Q [] []) ∧
((v24 ≠ v25) → False)))) ∧
((v21 ≠ v22) → False)))) ∧
((v18 ≠ v19) → False)))) ∧
((v15 ≠ v16) → False)) ∧
((v8 ≠ v10) → False)) ∧
((v3 < v7) → ((v8 = v10) → ∀ v15 : Int, v15 = b2i (v9 == 0) → ∀ v16 : Int, v16 = b2i (v11 == 0) → ((v15 = v16) → (Go.Sx.L2.args_ 43).rel.pre [v8] [] ∧
(∀ v18 : Int, (Go.Sx.L2.args_ 43).rel.post [v8] [] [v18] [] → (Go.Sx.L2.args_ 44).rel.pre [v8] [] ∧
(∀ v19 : Int, (Go.Sx.L2.args_ 44).rel.post [v8] [] [v19] [] → ((v18 = v19) → (Go.Sx.L2.args_ 43).rel.pre [v6] [] ∧
(∀ v21 : Int, (Go.Sx.L2.args_ 43).rel.post [v6] [] [v21] [] → (Go.Sx.L2.args_ 44).rel.pre [v6] [] ∧
(∀ v22 : Int, (Go.Sx.L2.args_ 44).rel.post [v6] [] [v22] [] → ((v21 = v22) → (Go.Sx.L2.check_ 26).rel.pre [v0, v1, v2, v3, v4, v5] [] ∧
(∀ v24 : Int, (Go.Sx.L2.check_ 26).rel.post [v0, v1, v2, v3, v4, v5] [] [v24] [] → (Go.Sx.L2.check_ 27).rel.pre [v0, v1, v2, v3, v4, v5] [] ∧
(∀ v25 : Int, (Go.Sx.L2.check_ 27).rel.post [v0, v1, v2, v3, v4, v5] [] [v25] [] → ((v24 = v25) → Q [] []) ∧
((v24 ≠ v25) → False)))) ∧
((v21 ≠ v22) → False)))) ∧
((v18 ≠ v19) → False)))) ∧
((v15 ≠ v16) → False)) ∧
((v8 ≠ v10) → False))))))) := by kernel_rfl
set_option maxHeartbeats 4000000 in
theorem wordAll_part_dc0 : (((lawSpec 8 [.agg L2.ks5, .one (.i .i64), .one (.i .i64), .one (.i .i64)]).withRng 6 (3) (3)).withRng 1 (4) (18446744073709551615)).Holds Tryz.prog L2.ro := FSpec.holdsV (cfg := withS (L2.cfg2 Tryz.prog) [L2.kind_ 39, L2.kind_ 40, L2.check_ 26, L2.check_ 27, L2.args_ 43, L2.args_ 44, L2.within_ 56, L2.within_ 57, L2.lets_ 58, L2.lets_ 59, L2.put_ 52, L2.put_ 77, L2.get_ 53, L2.get_ 78]) [] 20 200 (withS_ok cfg2_ok ⟨wKind_holds, rKind_holds, wCheck_holds, rCheck_holds, wArgs_holds, rArgs_holds, pWithin_holds, rWithin_holds, pLets_holds, rLets_holds, pPut_holds, rPte_holds, pGet_holds, rGet_holds, trivial⟩) mixed (t := WordAll_dc_t) WordAll_dc_tree (by
  show ∀ (v0 v1 v2 v3 v4 v5 v6 v7 : Int) , _
  intro v0 v1 v2 v3 v4 v5 v6 v7  hp hr hl
  replace hr : (((4) : Int) ≤ v1 ∧ v1 ≤ ((18446744073709551615) : Int)) ∧ (((3) : Int) ≤ v6 ∧ v6 ≤ ((3) : Int)) ∧ ((0 : Int) ≤ v0 ∧ v0 ≤ (18446744073709551615 : Int)) ∧ ((0 : Int) ≤ v1 ∧ v1 ≤ (18446744073709551615 : Int)) ∧ ((0 : Int) ≤ v2 ∧ v2 ≤ (18446744073709551615 : Int)) ∧ ((0 : Int) ≤ v3 ∧ v3 ≤ (18446744073709551615 : Int)) ∧ ((0 : Int) ≤ v4 ∧ v4 ≤ (18446744073709551615 : Int)) ∧ ((-9223372036854775808 : Int) ≤ v5 ∧ v5 ≤ (9223372036854775807 : Int)) ∧ ((-9223372036854775808 : Int) ≤ v6 ∧ v6 ≤ (9223372036854775807 : Int)) ∧ ((-9223372036854775808 : Int) ≤ v7 ∧ v7 ≤ (9223372036854775807 : Int)) ∧ True := hr
  replace hp : True := hp
  show WordAll_dc_t.dn ⟨_, []⟩ 8 [v7, v6, v5, v4, v3, v2, v1, v0] 0 []
  rw [WordAll_dc_vc]
  show ((L2.yes L2.f_messuagelaw2_begun).rel.pre [] [] ∧ _)
  refine ⟨trivial, fun _ => ?_⟩
  simp only [fnSpec_post, fnSpec_pre, true_and, List.cons.injEq, and_true, List.getD_cons_zero, List.getD_cons_succ, and_imp]
  intro v8 v9 e8 e9 v10 v11 e10 e11
  subst e8 e9 e10 e11
  simp only [b2i, forall_eq]
  repeat' first | refine And.intro ?_ ?_ | intro _
  all_goals first | trivial | omega | grind)
end Go.Proofs.YthjfkblnbecjgaaGreatDoor
