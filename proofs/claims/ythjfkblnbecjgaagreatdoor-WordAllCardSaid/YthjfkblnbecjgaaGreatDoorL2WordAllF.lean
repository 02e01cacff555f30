/- A part of the proof of messuagelaw2.WordAll: some of the arguments' ranges. -/
import Derived.Test.YthjfkblnbecjgaaGreatDoorL2Kw
import Derived.Test.YthjfkblnbecjgaaGreatDoorL2Kg
import Derived.Test.YthjfkblnbecjgaaGreatDoorSxM7
set_option linter.unusedVariables false
set_option linter.unusedSimpArgs false
open Go Go.Sx
namespace Go.Proofs.YthjfkblnbecjgaaGreatDoor
open Go.ChangeShapes Go.WideShapes Go.RowKit
set_option maxRecDepth 100000

noncomputable def WordAll_fa_t : Tree := .call 25 (Go.Sx.L2.yes L2.f_messuagelaw2_begun).rel [] [] 0 0 (.call 39 (Go.Sx.L2.kind_ 39).rel [.v 0, .v 1, .v 2, .v 3, .v 4] [] 2 0 (.call 40 (Go.Sx.L2.kind_ 40).rel [.v 0, .v 1, .v 2, .v 3, .v 4] [] 2 0 (.letI (.cmp .eql (.v 8) (.v 10)) (.ite (.v 12) (.letI (.not (.v 9)) (.letI (.not (.v 11)) (.letI (.cmp .eql (.v 13) (.v 14)) (.ite (.v 15) (.call 43 (Go.Sx.L2.args_ 43).rel [.v 8] [] 1 0 (.call 44 (Go.Sx.L2.args_ 44).rel [.v 8] [] 1 0 (.letI (.cmp .eql (.v 16) (.v 17)) (.ite (.v 18) (.call 43 (Go.Sx.L2.args_ 43).rel [.v 6] [] 1 0 (.call 44 (Go.Sx.L2.args_ 44).rel [.v 6] [] 1 0 (.letI (.cmp .eql (.v 19) (.v 20)) (.ite (.v 21) (.letI (.cmp .leq (.c 20) (.v 6)) (.ite (.v 22) (.letI (.cmp .leq (.v 6) (.c 23)) (.letI (.not (.v 23)) (.call 26 (Go.Sx.L2.check_ 26).rel [.v 0, .v 1, .v 2, .v 3, .v 4, .v 5] [] 1 0 (.call 27 (Go.Sx.L2.check_ 27).rel [.v 0, .v 1, .v 2, .v 3, .v 4, .v 5] [] 1 0 (.letI (.cmp .eql (.v 25) (.v 26)) (.ite (.v 27) (.done [] []) (.fail 180))))))) (.call 26 (Go.Sx.L2.check_ 26).rel [.v 0, .v 1, .v 2, .v 3, .v 4, .v 5] [] 1 0 (.call 27 (Go.Sx.L2.check_ 27).rel [.v 0, .v 1, .v 2, .v 3, .v 4, .v 5] [] 1 0 (.letI (.cmp .eql (.v 23) (.v 24)) (.ite (.v 25) (.done [] []) (.fail 180))))))) (.fail 180))))) (.fail 180))))) (.fail 180))))) (.fail 180)))))
theorem WordAll_fa_tree : (((lawSpec 8 [.agg L2.ks5, .one (.i .i64), .one (.i .i64), .one (.i .i64)]).withRng 6 (5) (9223372036854775807)).withRng 1 (0) (0)).exe Tryz.prog (withS (L2.cfg2 Tryz.prog) [L2.kind_ 39, L2.kind_ 40, L2.check_ 26, L2.check_ 27, L2.args_ 43, L2.args_ 44, L2.within_ 56, L2.within_ 57, L2.lets_ 58, L2.lets_ 59, L2.put_ 52, L2.put_ 77, L2.get_ 53, L2.get_ 78]) [] 20 200 = WordAll_fa_t := by kernel_rfl
theorem WordAll_fa_vc (Q : List Int → List (List Int) → Prop) (v0 v1 v2 v3 v4 v5 v6 v7 : Int) : WordAll_fa_t.dn ⟨Q, []⟩ 8 [v7, v6, v5, v4, v3, v2, v1, v0] 0 [] = ((Go.Sx.L2.yes L2.f_messuagelaw2_begun).rel.pre [] [] ∧
((Go.Sx.L2.yes L2.f_messuagelaw2_begun).rel.post [] [] [] [] → (Go.Sx.L2.kind_ 39).rel.pre [v0, v1, v2, v3, v4] [] ∧
(∀ v8 : Int, ∀ v9 : Int, (Go.Sx.L2.kind_ 39).rel.post [v0, v1, v2, v3, v4] [] [v8, v9] [] → (Go.Sx.L2.kind_ 40).rel.pre [v0, v1, v2, v3, v4] [] ∧
(∀ v10 : Int, ∀ v11 : Int, (Go.Sx.L2.kind_ 40).rel.post [v0, v1, v2, v3, v4] [] [v10, v11] [] → ((v8 = v10) → ∀ v13 : Int, v13 = b2i (v9 == 0) → ∀ v14 : Int, v14 = b2i (v11 == 0) → ((v13 = v14) → (Go.Sx.L2.args_ 43).rel.pre [v8] [] ∧
(∀ v16 : Int, (Go.Sx.L2.args_ 43).rel.post [v8] [] [v16] [] → (Go.Sx.L2.args_ 44).rel.pre [v8] [] ∧
(∀ v17 : Int, (Go.Sx.L2.args_ 44).rel.post [v8] [] [v17] [] → ((v16 = v17) → (Go.Sx.L2.args_ 43).rel.pre [v6] [] ∧
(∀ v19 : Int, (Go.Sx.L2.args_ 43).rel.post [v6] [] [v19] [] → (Go.Sx.L2.args_ 44).rel.pre [v6] [] ∧
(∀ v20 : Int, (Go.Sx.L2.args_ 44).rel.post [v6] [] [v20] [] → ((v19 = v20) → (((20 : Int) ≤ v6) → ∀ v23 : Int, v23 = b2i (decide (v6 ≤ (23 : Int))) → ∀ v24 : Int, v24 = b2i (v23 == 0) → (Go.Sx.L2.check_ 26).rel.pre [v0, v1, v2, v3, v4, v5] [] ∧
(∀ v25 : Int, (Go.Sx.L2.check_ 26).rel.post [v0, v1, v2, v3, v4, v5] [] [v25] [] → (Go.Sx.L2.check_ 27).rel.pre [v0, v1, v2, v3, v4, v5] [] ∧
(∀ v26 : Int, (Go.Sx.L2.check_ 27).rel.post [v0, v1, v2, v3, v4, v5] [] [v26] [] → ((v25 = v26) → Q [] []) ∧
((v25 ≠ v26) → False)))) ∧
((v6 < (20 : Int)) → (Go.Sx.L2.check_ 26).rel.pre [v0, v1, v2, v3, v4, v5] [] ∧
(∀ v23 : Int, (Go.Sx.L2.check_ 26).rel.post [v0, v1, v2, v3, v4, v5] [] [v23] [] → (Go.Sx.L2.check_ 27).rel.pre [v0, v1, v2, v3, v4, v5] [] ∧
(∀ v24 : Int, (Go.Sx.L2.check_ 27).rel.post [v0, v1, v2, v3, v4, v5] [] [v24] [] → ((v23 = v24) → Q [] []) ∧
((v23 ≠ v24) → False))))) ∧
((v19 ≠ v20) → False)))) ∧
((v16 ≠ v17) → False)))) ∧
((v13 ≠ v14) → False)) ∧
((v8 ≠ v10) → False))))) := by kernel_rfl
set_option maxHeartbeats 4000000 in
theorem wordAll_part_fa0 : (((lawSpec 8 [.agg L2.ks5, .one (.i .i64), .one (.i .i64), .one (.i .i64)]).withRng 6 (5) (9223372036854775807)).withRng 1 (0) (0)).Holds Tryz.prog L2.ro := FSpec.holdsV (cfg := withS (L2.cfg2 Tryz.prog) [L2.kind_ 39, L2.kind_ 40, L2.check_ 26, L2.check_ 27, L2.args_ 43, L2.args_ 44, L2.within_ 56, L2.within_ 57, L2.lets_ 58, L2.lets_ 59, L2.put_ 52, L2.put_ 77, L2.get_ 53, L2.get_ 78]) [] 20 200 (withS_ok cfg2_ok ⟨wKind_holds, rKind_holds, wCheck_holds, rCheck_holds, wArgs_holds, rArgs_holds, pWithin_holds, rWithin_holds, pLets_holds, rLets_holds, pPut_holds, rPte_holds, pGet_holds, rGet_holds, trivial⟩) mixed (t := WordAll_fa_t) WordAll_fa_tree (by
  show ∀ (v0 v1 v2 v3 v4 v5 v6 v7 : Int) , _
  intro v0 v1 v2 v3 v4 v5 v6 v7  hp hr hl
  replace hr : (((0) : Int) ≤ v1 ∧ v1 ≤ ((0) : Int)) ∧ (((5) : Int) ≤ v6 ∧ v6 ≤ ((9223372036854775807) : Int)) ∧ ((0 : Int) ≤ v0 ∧ v0 ≤ (18446744073709551615 : Int)) ∧ ((0 : Int) ≤ v1 ∧ v1 ≤ (18446744073709551615 : Int)) ∧ ((0 : Int) ≤ v2 ∧ v2 ≤ (18446744073709551615 : Int)) ∧ ((0 : Int) ≤ v3 ∧ v3 ≤ (18446744073709551615 : Int)) ∧ ((0 : Int) ≤ v4 ∧ v4 ≤ (18446744073709551615 : Int)) ∧ ((-9223372036854775808 : Int) ≤ v5 ∧ v5 ≤ (9223372036854775807 : Int)) ∧ ((-9223372036854775808 : Int) ≤ v6 ∧ v6 ≤ (9223372036854775807 : Int)) ∧ ((-9223372036854775808 : Int) ≤ v7 ∧ v7 ≤ (9223372036854775807 : Int)) ∧ True := hr
  replace hp : True := hp
  show WordAll_fa_t.dn ⟨_, []⟩ 8 [v7, v6, v5, v4, v3, v2, v1, v0] 0 []
  rw [WordAll_fa_vc]
  show ((L2.yes L2.f_messuagelaw2_begun).rel.pre [] [] ∧ _)
  refine ⟨trivial, fun _ => ?_⟩
  simp only [fnSpec_post, fnSpec_pre, true_and, List.cons.injEq, and_true, List.getD_cons_zero, List.getD_cons_succ, and_imp]
  intro v8 v9 e8 e9 v10 v11 e10 e11
  subst e8 e9 e10 e11
  simp only [b2i, forall_eq]
  repeat' first | refine And.intro ?_ ?_ | intro _
  all_goals first | trivial | omega | grind)

noncomputable def WordAll_fb_t : Tree := .call 25 (Go.Sx.L2.yes L2.f_messuagelaw2_begun).rel [] [] 0 0 (.call 39 (Go.Sx.L2.kind_ 39).rel [.v 0, .v 1, .v 2, .v 3, .v 4] [] 2 0 (.call 40 (Go.Sx.L2.kind_ 40).rel [.v 0, .v 1, .v 2, .v 3, .v 4] [] 2 0 (.letI (.cmp .eql (.v 8) (.v 10)) (.ite (.v 12) (.letI (.not (.v 9)) (.letI (.not (.v 11)) (.letI (.cmp .eql (.v 13) (.v 14)) (.ite (.v 15) (.call 43 (Go.Sx.L2.args_ 43).rel [.v 8] [] 1 0 (.call 44 (Go.Sx.L2.args_ 44).rel [.v 8] [] 1 0 (.letI (.cmp .eql (.v 16) (.v 17)) (.ite (.v 18) (.call 43 (Go.Sx.L2.args_ 43).rel [.v 6] [] 1 0 (.call 44 (Go.Sx.L2.args_ 44).rel [.v 6] [] 1 0 (.letI (.cmp .eql (.v 19) (.v 20)) (.ite (.v 21) (.letI (.cmp .leq (.c 20) (.v 6)) (.ite (.v 22) (.letI (.cmp .leq (.v 6) (.c 23)) (.letI (.not (.v 23)) (.call 26 (Go.Sx.L2.check_ 26).rel [.v 0, .v 1, .v 2, .v 3, .v 4, .v 5] [] 1 0 (.call 27 (Go.Sx.L2.check_ 27).rel [.v 0, .v 1, .v 2, .v 3, .v 4, .v 5] [] 1 0 (.letI (.cmp .eql (.v 25) (.v 26)) (.ite (.v 27) (.done [] []) (.fail 180))))))) (.call 26 (Go.Sx.L2.check_ 26).rel [.v 0, .v 1, .v 2, .v 3, .v 4, .v 5] [] 1 0 (.call 27 (Go.Sx.L2.check_ 27).rel [.v 0, .v 1, .v 2, .v 3, .v 4, .v 5] [] 1 0 (.letI (.cmp .eql (.v 23) (.v 24)) (.ite (.v 25) (.done [] []) (.fail 180))))))) (.fail 180))))) (.fail 180))))) (.fail 180))))) (.fail 180)))))
theorem WordAll_fb_tree : (((lawSpec 8 [.agg L2.ks5, .one (.i .i64), .one (.i .i64), .one (.i .i64)]).withRng 6 (5) (9223372036854775807)).withRng 1 (1) (3)).exe Tryz.prog (withS (L2.cfg2 Tryz.prog) [L2.kind_ 39, L2.kind_ 40, L2.check_ 26, L2.check_ 27, L2.args_ 43, L2.args_ 44, L2.within_ 56, L2.within_ 57, L2.lets_ 58, L2.lets_ 59, L2.put_ 52, L2.put_ 77, L2.get_ 53, L2.get_ 78]) [] 20 200 = WordAll_fb_t := by kernel_rfl
theorem WordAll_fb_vc (Q : List Int → List (List Int) → Prop) (v0 v1 v2 v3 v4 v5 v6 v7 : Int) : WordAll_fb_t.dn ⟨Q, []⟩ 8 [v7, v6, v5, v4, v3, v2, v1, v0] 0 [] = ((Go.Sx.L2.yes L2.f_messuagelaw2_begun).rel.pre [] [] ∧
((Go.Sx.L2.yes L2.f_messuagelaw2_begun).rel.post [] [] [] [] → (Go.Sx.L2.kind_ 39).rel.pre [v0, v1, v2, v3, v4] [] ∧
(∀ v8 : Int, ∀ v9 : Int, (Go.Sx.L2.kind_ 39).rel.post [v0, v1, v2, v3, v4] [] [v8, v9] [] → (Go.Sx.L2.kind_ 40).rel.pre [v0, v1, v2, v3, v4] [] ∧
(∀ v10 : Int, ∀ v11 : Int, (Go.Sx.L2.kind_ 40).rel.post [v0, v1, v2, v3, v4] [] [v10, v11] [] → ((v8 = v10) → ∀ v13 : Int, v13 = b2i (v9 == 0) → ∀ v14 : Int, v14 = b2i (v11 == 0) → ((v13 = v14) → (Go.Sx.L2.args_ 43).rel.pre [v8] [] ∧
(∀ v16 : Int, (Go.Sx.L2.args_ 43).rel.post [v8] [] [v16] [] → (Go.Sx.L2.args_ 44).rel.pre [v8] [] ∧
(∀ v17 : Int, (Go.Sx.L2.args_ 44).rel.post [v8] [] [v17] [] → ((v16 = v17) → (Go.Sx.L2.args_ 43).rel.pre [v6] [] ∧
(∀ v19 : Int, (Go.Sx.L2.args_ 43).rel.post [v6] [] [v19] [] → (Go.Sx.L2.args_ 44).rel.pre [v6] [] ∧
(∀ v20 : Int, (Go.Sx.L2.args_ 44).rel.post [v6] [] [v20] [] → ((v19 = v20) → (((20 : Int) ≤ v6) → ∀ v23 : Int, v23 = b2i (decide (v6 ≤ (23 : Int))) → ∀ v24 : Int, v24 = b2i (v23 == 0) → (Go.Sx.L2.check_ 26).rel.pre [v0, v1, v2, v3, v4, v5] [] ∧
(∀ v25 : Int, (Go.Sx.L2.check_ 26).rel.post [v0, v1, v2, v3, v4, v5] [] [v25] [] → (Go.Sx.L2.check_ 27).rel.pre [v0, v1, v2, v3, v4, v5] [] ∧
(∀ v26 : Int, (Go.Sx.L2.check_ 27).rel.post [v0, v1, v2, v3, v4, v5] [] [v26] [] → ((v25 = v26) → Q [] []) ∧
((v25 ≠ v26) → False)))) ∧
((v6 < (20 : Int)) → (Go.Sx.L2.check_ 26).rel.pre [v0, v1, v2, v3, v4, v5] [] ∧
(∀ v23 : Int, (Go.Sx.L2.check_ 26).rel.post [v0, v1, v2, v3, v4, v5] [] [v23] [] → (Go.Sx.L2.check_ 27).rel.pre [v0, v1, v2, v3, v4, v5] [] ∧
(∀ v24 : Int, (Go.Sx.L2.check_ 27).rel.post [v0, v1, v2, v3, v4, v5] [] [v24] [] → ((v23 = v24) → Q [] []) ∧
((v23 ≠ v24) → False))))) ∧
((v19 ≠ v20) → False)))) ∧
((v16 ≠ v17) → False)))) ∧
((v13 ≠ v14) → False)) ∧
((v8 ≠ v10) → False))))) := by kernel_rfl
set_option maxHeartbeats 4000000 in
theorem wordAll_part_fb0 : (((lawSpec 8 [.agg L2.ks5, .one (.i .i64), .one (.i .i64), .one (.i .i64)]).withRng 6 (5) (9223372036854775807)).withRng 1 (1) (3)).Holds Tryz.prog L2.ro := FSpec.holdsV (cfg := withS (L2.cfg2 Tryz.prog) [L2.kind_ 39, L2.kind_ 40, L2.check_ 26, L2.check_ 27, L2.args_ 43, L2.args_ 44, L2.within_ 56, L2.within_ 57, L2.lets_ 58, L2.lets_ 59, L2.put_ 52, L2.put_ 77, L2.get_ 53, L2.get_ 78]) [] 20 200 (withS_ok cfg2_ok ⟨wKind_holds, rKind_holds, wCheck_holds, rCheck_holds, wArgs_holds, rArgs_holds, pWithin_holds, rWithin_holds, pLets_holds, rLets_holds, pPut_holds, rPte_holds, pGet_holds, rGet_holds, trivial⟩) mixed (t := WordAll_fb_t) WordAll_fb_tree (by
  show ∀ (v0 v1 v2 v3 v4 v5 v6 v7 : Int) , _
  intro v0 v1 v2 v3 v4 v5 v6 v7  hp hr hl
  replace hr : (((1) : Int) ≤ v1 ∧ v1 ≤ ((3) : Int)) ∧ (((5) : Int) ≤ v6 ∧ v6 ≤ ((9223372036854775807) : Int)) ∧ ((0 : Int) ≤ v0 ∧ v0 ≤ (18446744073709551615 : Int)) ∧ ((0 : Int) ≤ v1 ∧ v1 ≤ (18446744073709551615 : Int)) ∧ ((0 : Int) ≤ v2 ∧ v2 ≤ (18446744073709551615 : Int)) ∧ ((0 : Int) ≤ v3 ∧ v3 ≤ (18446744073709551615 : Int)) ∧ ((0 : Int) ≤ v4 ∧ v4 ≤ (18446744073709551615 : Int)) ∧ ((-9223372036854775808 : Int) ≤ v5 ∧ v5 ≤ (9223372036854775807 : Int)) ∧ ((-9223372036854775808 : Int) ≤ v6 ∧ v6 ≤ (9223372036854775807 : Int)) ∧ ((-9223372036854775808 : Int) ≤ v7 ∧ v7 ≤ (9223372036854775807 : Int)) ∧ True := hr
  replace hp : True := hp
  show WordAll_fb_t.dn ⟨_, []⟩ 8 [v7, v6, v5, v4, v3, v2, v1, v0] 0 []
  rw [WordAll_fb_vc]
  show ((L2.yes L2.f_messuagelaw2_begun).rel.pre [] [] ∧ _)
  refine ⟨trivial, fun _ => ?_⟩
  simp only [fnSpec_post, fnSpec_pre, true_and, List.cons.injEq, and_true, List.getD_cons_zero, List.getD_cons_succ, and_imp]
  intro v8 v9 e8 e9 v10 v11 e10 e11
  subst e8 e9 e10 e11
  simp only [b2i, forall_eq]
  repeat' first | refine And.intro ?_ ?_ | intro _
  all_goals first | trivial | omega | grind)

noncomputable def WordAll_fc_t : Tree := .call 25 (Go.Sx.L2.yes L2.f_messuagelaw2_begun).rel [] [] 0 0 (.call 39 (Go.Sx.L2.kind_ 39).rel [.v 0, .v 1, .v 2, .v 3, .v 4] [] 2 0 (.call 40 (Go.Sx.L2.kind_ 40).rel [.v 0, .v 1, .v 2, .v 3, .v 4] [] 2 0 (.letI (.cmp .eql (.v 8) (.v 10)) (.ite (.v 12) (.letI (.not (.v 9)) (.letI (.not (.v 11)) (.letI (.cmp .eql (.v 13) (.v 14)) (.ite (.v 15) (.call 43 (Go.Sx.L2.args_ 43).rel [.v 8] [] 1 0 (.call 44 (Go.Sx.L2.args_ 44).rel [.v 8] [] 1 0 (.letI (.cmp .eql (.v 16) (.v 17)) (.ite (.v 18) (.call 43 (Go.Sx.L2.args_ 43).rel [.v 6] [] 1 0 (.call 44 (Go.Sx.L2.args_ 44).rel [.v 6] [] 1 0 (.letI (.cmp .eql (.v 19) (.v 20)) (.ite (.v 21) (.letI (.cmp .leq (.c 20) (.v 6)) (.ite (.v 22) (.letI (.cmp .leq (.v 6) (.c 23)) (.letI (.not (.v 23)) (.call 26 (Go.Sx.L2.check_ 26).rel [.v 0, .v 1, .v 2, .v 3, .v 4, .v 5] [] 1 0 (.call 27 (Go.Sx.L2.check_ 27).rel [.v 0, .v 1, .v 2, .v 3, .v 4, .v 5] [] 1 0 (.letI (.cmp .eql (.v 25) (.v 26)) (.ite (.v 27) (.done [] []) (.fail 180))))))) (.call 26 (Go.Sx.L2.check_ 26).rel [.v 0, .v 1, .v 2, .v 3, .v 4, .v 5] [] 1 0 (.call 27 (Go.Sx.L2.check_ 27).rel [.v 0, .v 1, .v 2, .v 3, .v 4, .v 5] [] 1 0 (.letI (.cmp .eql (.v 23) (.v 24)) (.ite (.v 25) (.done [] []) (.fail 180))))))) (.fail 180))))) (.fail 180))))) (.fail 180))))) (.fail 180)))))
theorem WordAll_fc_tree : (((lawSpec 8 [.agg L2.ks5, .one (.i .i64), .one (.i .i64), .one (.i .i64)]).withRng 6 (5) (9223372036854775807)).withRng 1 (4) (18446744073709551615)).exe Tryz.prog (withS (L2.cfg2 Tryz.prog) [L2.kind_ 39, L2.kind_ 40, L2.check_ 26, L2.check_ 27, L2.args_ 43, L2.args_ 44, L2.within_ 56, L2.within_ 57, L2.lets_ 58, L2.lets_ 59, L2.put_ 52, L2.put_ 77, L2.get_ 53, L2.get_ 78]) [] 20 200 = WordAll_fc_t := by kernel_rfl
theorem WordAll_fc_vc (Q : List Int → List (List Int) → Prop) (v0 v1 v2 v3 v4 v5 v6 v7 : Int) : WordAll_fc_t.dn ⟨Q, []⟩ 8 [v7, v6, v5, v4, v3, v2, v1, v0] 0 [] = ((Go.Sx.L2.yes L2.f_messuagelaw2_begun).rel.pre [] [] ∧
((Go.Sx.L2.yes L2.f_messuagelaw2_begun).rel.post [] [] [] [] → (Go.Sx.L2.kind_ 39).rel.pre [v0, v1, v2, v3, v4] [] ∧
(∀ v8 : Int, ∀ v9 : Int, (Go.Sx.L2.kind_ 39).rel.post [v0, v1, v2, v3, v4] [] [v8, v9] [] → (Go.Sx.L2.kind_ 40).rel.pre [v0, v1, v2, v3, v4] [] ∧
(∀ v10 : Int, ∀ v11 : Int, (Go.Sx.L2.kind_ 40).rel.post [v0, v1, v2, v3, v4] [] [v10, v11] [] → ((v8 = v10) → ∀ v13 : Int, v13 = b2i (v9 == 0) → ∀ v14 : Int, v14 = b2i (v11 == 0) → ((v13 = v14) → (Go.Sx.L2.args_ 43).rel.pre [v8] [] ∧
(∀ v16 : Int, (Go.Sx.L2.args_ 43).rel.post [v8] [] [v16] [] → (Go.Sx.L2.args_ 44).rel.pre [v8] [] ∧
(∀ v17 : Int, (Go.Sx.L2.args_ 44).rel.post [v8] [] [v17] [] → ((v16 = v17) → (Go.Sx.L2.args_ 43).rel.pre [v6] [] ∧
(∀ v19 : Int, (Go.Sx.L2.args_ 43).rel.post [v6] [] [v19] [] → (Go.Sx.L2.args_ 44).rel.pre [v6] [] ∧
(∀ v20 : Int, (Go.Sx.L2.args_ 44).rel.post [v6] [] [v20] [] → ((v19 = v20) → (((20 : Int) ≤ v6) → ∀ v23 : Int, v23 = b2i (decide (v6 ≤ (23 : Int))) → ∀ v24 : Int, v24 = b2i (v23 == 0) → (Go.Sx.L2.check_ 26).rel.pre [v0, v1, v2, v3, v4, v5] [] ∧
(∀ v25 : Int, (Go.Sx.L2.check_ 26).rel.post [v0, v1, v2, v3, v4, v5] [] [v25] [] → (Go.Sx.L2.check_ 27).rel.pre [v0, v1, v2, v3, v4, v5] [] ∧
(∀ v26 : Int, (Go.Sx.L2.check_ 27).rel.post [v0, v1, v2, v3, v4, v5] [] [v26] [] → ((v25 = v26) → Q [] []) ∧
((v25 ≠ v26) → False)))) ∧
((v6 < (20 : Int)) → (Go.Sx.L2.check_ 26).rel.pre [v0, v1, v2, v3, v4, v5] [] ∧
(∀ v23 : Int, (Go.Sx.L2.check_ 26).rel.post [v0, v1, v2, v3, v4, v5] [] [v23] [] → (Go.Sx.L2.check_ 27).rel.pre [v0, v1, v2, v3, v4, v5] [] ∧
(∀ v24 : Int, (Go.Sx.L2.check_ 27).rel.post [v0, v1, v2, v3, v4, v5] [] [v24] [] → ((v23 = v24) → Q [] []) ∧
((v23 ≠ v24) → False))))) ∧
((v19 ≠ v20) → False)))) ∧
((v16 ≠ v17) → False)))) ∧
((v13 ≠ v14) → False)) ∧
((v8 ≠ v10) → False))))) := by kernel_rfl
set_option maxHeartbeats 4000000 in
theorem wordAll_part_fc0 : (((lawSpec 8 [.agg L2.ks5, .one (.i .i64), .one (.i .i64), .one (.i .i64)]).withRng 6 (5) (9223372036854775807)).withRng 1 (4) (18446744073709551615)).Holds Tryz.prog L2.ro := FSpec.holdsV (cfg := withS (L2.cfg2 Tryz.prog) [L2.kind_ 39, L2.kind_ 40, L2.check_ 26, L2.check_ 27, L2.args_ 43, L2.args_ 44, L2.within_ 56, L2.within_ 57, L2.lets_ 58, L2.lets_ 59, L2.put_ 52, L2.put_ 77, L2.get_ 53, L2.get_ 78]) [] 20 200 (withS_ok cfg2_ok ⟨wKind_holds, rKind_holds, wCheck_holds, rCheck_holds, wArgs_holds, rArgs_holds, pWithin_holds, rWithin_holds, pLets_holds, rLets_holds, pPut_holds, rPte_holds, pGet_holds, rGet_holds, trivial⟩) mixed (t := WordAll_fc_t) WordAll_fc_tree (by
  show ∀ (v0 v1 v2 v3 v4 v5 v6 v7 : Int) , _
  intro v0 v1 v2 v3 v4 v5 v6 v7  hp hr hl
  replace hr : (((4) : Int) ≤ v1 ∧ v1 ≤ ((18446744073709551615) : Int)) ∧ (((5) : Int) ≤ v6 ∧ v6 ≤ ((9223372036854775807) : Int)) ∧ ((0 : Int) ≤ v0 ∧ v0 ≤ (18446744073709551615 : Int)) ∧ ((0 : Int) ≤ v1 ∧ v1 ≤ (18446744073709551615 : Int)) ∧ ((0 : Int) ≤ v2 ∧ v2 ≤ (18446744073709551615 : Int)) ∧ ((0 : Int) ≤ v3 ∧ v3 ≤ (18446744073709551615 : Int)) ∧ ((0 : Int) ≤ v4 ∧ v4 ≤ (18446744073709551615 : Int)) ∧ ((-9223372036854775808 : Int) ≤ v5 ∧ v5 ≤ (9223372036854775807 : Int)) ∧ ((-9223372036854775808 : Int) ≤ v6 ∧ v6 ≤ (9223372036854775807 : Int)) ∧ ((-9223372036854775808 : Int) ≤ v7 ∧ v7 ≤ (9223372036854775807 : Int)) ∧ True := hr
  replace hp : True := hp
  show WordAll_fc_t.dn ⟨_, []⟩ 8 [v7, v6, v5, v4, v3, v2, v1, v0] 0 []
  rw [WordAll_fc_vc]
  show ((L2.yes L2.f_messuagelaw2_begun).rel.pre [] [] ∧ _)
  refine ⟨trivial, fun _ => ?_⟩
  simp only [fnSpec_post, fnSpec_pre, true_and, List.cons.injEq, and_true, List.getD_cons_zero, List.getD_cons_succ, and_imp]
  intro v8 v9 e8 e9 v10 v11 e10 e11
  subst e8 e9 e10 e11
  simp only [b2i, forall_eq]
  repeat' first | refine And.intro ?_ ?_ | intro _
  all_goals first | trivial | omega | grind)
end Go.Proofs.YthjfkblnbecjgaaGreatDoor
