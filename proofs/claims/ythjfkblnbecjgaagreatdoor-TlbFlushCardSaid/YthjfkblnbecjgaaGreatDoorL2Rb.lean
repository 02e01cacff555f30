/- Contracts: the document's buffer. -/
import Derived.Test.YthjfkblnbecjgaaGreatDoorL2Ra
set_option linter.unusedVariables false
set_option linter.unusedSimpArgs false
open Go Go.Sx
namespace Go.Proofs.YthjfkblnbecjgaaGreatDoor
set_option maxRecDepth 100000
theorem ra_ok : (withS (L2.cfg2 Tryz.prog) [L2.rFind0]).Ok Tryz.prog := withS_ok cfg2_ok ⟨rFind0_holds, trivial⟩
noncomputable def rFind_t : Tree := .call 114 (Go.Sx.L2.rFind0).rel [.v 0, .v 1] [0] 1 0 (.letI (.cmp .leq (.c 0) (.v 2)) (.ite (.v 3) (.letI (.mul (.v 2) (.c 4)) (.letI (.get 0 (.v 4)) (.letI (.add (.v 4) (.c 1)) (.letI (.get 0 (.v 6)) (.letI (.add (.v 4) (.c 2)) (.letI (.get 0 (.v 8)) (.letI (.add (.v 4) (.c 3)) (.letI (.get 0 (.v 10)) (.done [.v 5, .v 7, .v 9, .v 11, .c (1)] []))))))))) (.done [.c (0), .c (0), .c (0), .c (0), .c (0)] [])))
theorem rFind_tree : (L2.rFind).exe Tryz.prog (withS (L2.cfg2 Tryz.prog) [L2.rFind0]) [] 20 200 = rFind_t := by kernel_rfl
theorem rFind_vc (Q : List Int → List (List Int) → Prop) (v0 v1 : Int) (L0 : List Int) : rFind_t.dn ⟨Q, []⟩ 2 [v1, v0] 1 [L0] = ((Go.Sx.L2.rFind0).rel.pre [v0, v1] [L0] ∧
(∀ v2 : Int, (Go.Sx.L2.rFind0).rel.post [v0, v1] [L0] [v2] [] → (((0 : Int) ≤ v2) → ∀ v4 : Int, v4 = v2 * (4 : Int) → ∀ v5 : Int, v5 = (L0).getD (v4).toNat 0 → ∀ v6 : Int, v6 = v4 + (1 : Int) → ∀ v7 : Int, v7 = (L0).getD (v6).toNat 0 → ∀ v8 : Int, v8 = v4 + (2 : Int) → ∀ v9 : Int, v9 = (L0).getD (v8).toNat 0 → ∀ v10 : Int, v10 = v4 + (3 : Int) → ∀ v11 : Int, v11 = (L0).getD (v10).toNat 0 → Q [v5, v7, v9, v11, (1 : Int)] []) ∧
((v2 < (0 : Int)) → Q [(0 : Int), (0 : Int), (0 : Int), (0 : Int), (0 : Int)] []))) := by kernel_rfl
set_option maxHeartbeats 4000000 in
theorem rFind_holds : (L2.rFind).Holds Tryz.prog L2.ro := FSpec.holdsV (cfg := withS (L2.cfg2 Tryz.prog) [L2.rFind0]) [] 20 200 ra_ok mixed (t := rFind_t) rFind_tree (by
  show ∀ (v0 v1 : Int) (L0 : List Int), _
  intro v0 v1 L0 hp hr hl
  replace hr : (((-9223372036854775808) : Int) ≤ v0 ∧ v0 ≤ ((9223372036854775807) : Int)) ∧ (((-9223372036854775808) : Int) ≤ v1 ∧ v1 ≤ ((9223372036854775807) : Int)) ∧ True := hr
  replace hl : (∀ x ∈ L0, (((-9223372036854775808) : Int) ≤ x ∧ x ≤ ((9223372036854775807) : Int))) ∧ True := hl
  show rFind_t.dn ⟨_, []⟩ 2 [v1, v0] 1 [L0]
  rw [rFind_vc]
  have hrf := rfB_range L0 v0 v1 8
  simp only [fnSpec_post, fnSpec_pre, true_and, List.cons.injEq, and_true, List.getD_cons_zero, List.getD_cons_succ, and_imp, forall_eq, b2i_zero, b2i_eq, ne_eq, Bool.not_eq_false, Bool.not_eq_true', Bool.not_eq_false', decide_eq_true_eq, decide_eq_false_iff_not, Int.not_lt, Int.not_le]
  repeat' first | refine And.intro ?_ ?_ | intro _
  all_goals clear hr hl hp
  all_goals first | omega | skip
  all_goals grind [findR, gI, b2i])
noncomputable def rFill_t : Tree := .letI (.cmp .lss (.v 0) (.c 0)) (.ite (.v 4) (.done [.c (0)] [0]) (.letI (.cmp .leq (.c 4) (.v 0)) (.ite (.v 5) (.done [.c (0)] [0]) (.letI (.cmp .lss (.v 1) (.c 0)) (.ite (.v 6) (.done [.c (0)] [0]) (.letI (.cmp .leq (.c 8) (.v 1)) (.ite (.v 7) (.done [.c (0)] [0]) (.letI (.cmp .lss (.v 2) (.c 0)) (.ite (.v 8) (.done [.c (0)] [0]) (.letI (.cmp .leq (.c 16) (.v 2)) (.ite (.v 9) (.done [.c (0)] [0]) (.letI (.cmp .leq (.c 1) (.v 3)) (.ite (.v 10) (.letI (.cmp .leq (.v 3) (.c 3)) (.letI (.not (.v 11)) (.ite (.v 12) (.done [.c (0)] [0]) (.call 114 (Go.Sx.L2.rFind0).rel [.v 0, .v 1] [0] 1 0 (.letI (.rem (.v 1) (.c 4)) (.letI (.mul (.v 14) (.c 2)) (.letI (.add (.v 15) (.c 2)) (.letI (.cmp .lss (.v 15) (.v 16)) (.ite (.v 17) (.letI (.cmp .lss (.v 13) (.c 0)) (.ite (.v 18) (.letI (.mul (.v 15) (.c 4)) (.letI (.get 0 (.v 19)) (.letI (.cmp .lss (.v 20) (.c 0)) (.ite (.v 21) (.letI (.add (.v 15) (.c 1)) (.letI (.cmp .lss (.v 22) (.v 16)) (.ite (.v 23) (.letI (.get 0 (.c 40)) (.letI (.add (.v 24) (.c 1)) (.letI (.wr .i64 (.v 25)) (.letL (.set 0 (.c 40) (.v 26)) (.letI (.get 1 (.c 40)) (.letL (.set 1 (.v 19) (.v 0)) (.letI (.add (.v 19) (.c 1)) (.letL (.set 2 (.v 28) (.v 1)) (.letI (.add (.v 19) (.c 2)) (.letL (.set 3 (.v 29) (.v 2)) (.letI (.add (.v 19) (.c 3)) (.letL (.set 4 (.v 30) (.v 3)) (.letI (.add (.c 32) (.v 15)) (.letL (.set 5 (.v 31) (.v 27)) (.done [.c (1)] [6]))))))))))))))) (.letI (.get 0 (.c 40)) (.letI (.add (.v 24) (.c 1)) (.letI (.wr .i64 (.v 25)) (.letL (.set 0 (.c 40) (.v 26)) (.letI (.get 1 (.c 40)) (.letL (.set 1 (.v 19) (.v 0)) (.letI (.add (.v 19) (.c 1)) (.letL (.set 2 (.v 28) (.v 1)) (.letI (.add (.v 19) (.c 2)) (.letL (.set 3 (.v 29) (.v 2)) (.letI (.add (.v 19) (.c 3)) (.letL (.set 4 (.v 30) (.v 3)) (.letI (.add (.c 32) (.v 15)) (.letL (.set 5 (.v 31) (.v 27)) (.done [.c (1)] [6])))))))))))))))))) (.letI (.add (.v 15) (.c 1)) (.letI (.cmp .lss (.v 22) (.v 16)) (.ite (.v 23) (.letI (.mul (.v 22) (.c 4)) (.letI (.get 0 (.v 24)) (.letI (.cmp .lss (.v 25) (.c 0)) (.ite (.v 26) (.letI (.add (.v 22) (.c 1)) (.letI (.cmp .lss (.v 27) (.v 16)) (.ite (.v 28) (.letI (.get 0 (.c 40)) (.letI (.add (.v 29) (.c 1)) (.letI (.wr .i64 (.v 30)) (.letL (.set 0 (.c 40) (.v 31)) (.letI (.get 1 (.c 40)) (.letL (.set 1 (.v 24) (.v 0)) (.letI (.add (.v 24) (.c 1)) (.letL (.set 2 (.v 33) (.v 1)) (.letI (.add (.v 24) (.c 2)) (.letL (.set 3 (.v 34) (.v 2)) (.letI (.add (.v 24) (.c 3)) (.letL (.set 4 (.v 35) (.v 3)) (.letI (.add (.c 32) (.v 22)) (.letL (.set 5 (.v 36) (.v 32)) (.done [.c (1)] [6]))))))))))))))) (.letI (.get 0 (.c 40)) (.letI (.add (.v 29) (.c 1)) (.letI (.wr .i64 (.v 30)) (.letL (.set 0 (.c 40) (.v 31)) (.letI (.get 1 (.c 40)) (.letL (.set 1 (.v 24) (.v 0)) (.letI (.add (.v 24) (.c 1)) (.letL (.set 2 (.v 33) (.v 1)) (.letI (.add (.v 24) (.c 2)) (.letL (.set 3 (.v 34) (.v 2)) (.letI (.add (.v 24) (.c 3)) (.letL (.set 4 (.v 35) (.v 3)) (.letI (.add (.c 32) (.v 22)) (.letL (.set 5 (.v 36) (.v 32)) (.done [.c (1)] [6])))))))))))))))))) (.letI (.add (.v 22) (.c 1)) (.letI (.cmp .lss (.v 27) (.v 16)) (.ite (.v 28) (.letI (.mul (.v 27) (.c 4)) (.letI (.get 0 (.v 29)) (.letI (.cmp .lss (.v 30) (.c 0)) (.ite (.v 31) (.letI (.add (.v 27) (.c 1)) (.fail 164)) (.letI (.add (.v 27) (.c 1)) (.fail 164)))))) (.letI (.add (.c 32) (.v 22)) (.letI (.get 0 (.v 29)) (.letI (.add (.c 32) (.v 15)) (.letI (.get 0 (.v 31)) (.letI (.cmp .lss (.v 30) (.v 32)) (.ite (.v 33) (.letI (.get 0 (.c 40)) (.letI (.add (.v 34) (.c 1)) (.letI (.wr .i64 (.v 35)) (.letL (.set 0 (.c 40) (.v 36)) (.letI (.get 1 (.c 40)) (.letL (.set 1 (.v 24) (.v 0)) (.letI (.add (.v 24) (.c 1)) (.letL (.set 2 (.v 38) (.v 1)) (.letI (.add (.v 24) (.c 2)) (.letL (.set 3 (.v 39) (.v 2)) (.letI (.add (.v 24) (.c 3)) (.letL (.set 4 (.v 40) (.v 3)) (.letL (.set 5 (.v 29) (.v 37)) (.done [.c (1)] [6])))))))))))))) (.letI (.get 0 (.c 40)) (.letI (.add (.v 34) (.c 1)) (.letI (.wr .i64 (.v 35)) (.letL (.set 0 (.c 40) (.v 36)) (.letI (.get 1 (.c 40)) (.letL (.set 1 (.v 19) (.v 0)) (.letI (.add (.v 19) (.c 1)) (.letL (.set 2 (.v 38) (.v 1)) (.letI (.add (.v 19) (.c 2)) (.letL (.set 3 (.v 39) (.v 2)) (.letI (.add (.v 19) (.c 3)) (.letL (.set 4 (.v 40) (.v 3)) (.letL (.set 5 (.v 31) (.v 37)) (.done [.c (1)] [6]))))))))))))))))))))))))))) (.letI (.add (.c 32) (.v 22)) (.letI (.get 0 (.v 24)) (.letI (.add (.c 32) (.v 15)) (.letI (.get 0 (.v 26)) (.letI (.cmp .lss (.v 25) (.v 27)) (.ite (.v 28) (.letI (.get 0 (.c 40)) (.letI (.add (.v 29) (.c 1)) (.letI (.wr .i64 (.v 30)) (.letL (.set 0 (.c 40) (.v 31)) (.letI (.get 1 (.c 40)) (.letI (.mul (.v 22) (.c 4)) (.letL (.set 1 (.v 33) (.v 0)) (.letI (.add (.v 33) (.c 1)) (.letL (.set 2 (.v 34) (.v 1)) (.letI (.add (.v 33) (.c 2)) (.letL (.set 3 (.v 35) (.v 2)) (.letI (.add (.v 33) (.c 3)) (.letL (.set 4 (.v 36) (.v 3)) (.letL (.set 5 (.v 24) (.v 32)) (.done [.c (1)] [6]))))))))))))))) (.letI (.get 0 (.c 40)) (.letI (.add (.v 29) (.c 1)) (.letI (.wr .i64 (.v 30)) (.letL (.set 0 (.c 40) (.v 31)) (.letI (.get 1 (.c 40)) (.letL (.set 1 (.v 19) (.v 0)) (.letI (.add (.v 19) (.c 1)) (.letL (.set 2 (.v 33) (.v 1)) (.letI (.add (.v 19) (.c 2)) (.letL (.set 3 (.v 34) (.v 2)) (.letI (.add (.v 19) (.c 3)) (.letL (.set 4 (.v 35) (.v 3)) (.letL (.set 5 (.v 26) (.v 32)) (.done [.c (1)] [6]))))))))))))))))))))))))))) (.letI (.get 0 (.c 40)) (.letI (.add (.v 19) (.c 1)) (.letI (.wr .i64 (.v 20)) (.letL (.set 0 (.c 40) (.v 21)) (.letI (.get 1 (.c 40)) (.letI (.mul (.v 13) (.c 4)) (.letL (.set 1 (.v 23) (.v 0)) (.letI (.add (.v 23) (.c 1)) (.letL (.set 2 (.v 24) (.v 1)) (.letI (.add (.v 23) (.c 2)) (.letL (.set 3 (.v 25) (.v 2)) (.letI (.add (.v 23) (.c 3)) (.letL (.set 4 (.v 26) (.v 3)) (.letI (.add (.c 32) (.v 13)) (.letL (.set 5 (.v 27) (.v 22)) (.done [.c (1)] [6])))))))))))))))))) (.letI (.cmp .lss (.v 13) (.c 0)) (.ite (.v 18) (.letI (.add (.v 15) (.c 1)) (.letI (.add (.c 32) (.v 19)) (.letI (.get 0 (.v 20)) (.letI (.add (.c 32) (.v 15)) (.letI (.get 0 (.v 22)) (.letI (.cmp .lss (.v 21) (.v 23)) (.ite (.v 24) (.letI (.get 0 (.c 40)) (.letI (.add (.v 25) (.c 1)) (.letI (.wr .i64 (.v 26)) (.letL (.set 0 (.c 40) (.v 27)) (.letI (.get 1 (.c 40)) (.letI (.mul (.v 19) (.c 4)) (.letL (.set 1 (.v 29) (.v 0)) (.letI (.add (.v 29) (.c 1)) (.letL (.set 2 (.v 30) (.v 1)) (.letI (.add (.v 29) (.c 2)) (.letL (.set 3 (.v 31) (.v 2)) (.letI (.add (.v 29) (.c 3)) (.letL (.set 4 (.v 32) (.v 3)) (.letL (.set 5 (.v 20) (.v 28)) (.done [.c (1)] [6]))))))))))))))) (.letI (.get 0 (.c 40)) (.letI (.add (.v 25) (.c 1)) (.letI (.wr .i64 (.v 26)) (.letL (.set 0 (.c 40) (.v 27)) (.letI (.get 1 (.c 40)) (.letI (.mul (.v 15) (.c 4)) (.letL (.set 1 (.v 29) (.v 0)) (.letI (.add (.v 29) (.c 1)) (.letL (.set 2 (.v 30) (.v 1)) (.letI (.add (.v 29) (.c 2)) (.letL (.set 3 (.v 31) (.v 2)) (.letI (.add (.v 29) (.c 3)) (.letL (.set 4 (.v 32) (.v 3)) (.letL (.set 5 (.v 22) (.v 28)) (.done [.c (1)] [6])))))))))))))))))))))) (.letI (.get 0 (.c 40)) (.letI (.add (.v 19) (.c 1)) (.letI (.wr .i64 (.v 20)) (.letL (.set 0 (.c 40) (.v 21)) (.letI (.get 1 (.c 40)) (.letI (.mul (.v 13) (.c 4)) (.letL (.set 1 (.v 23) (.v 0)) (.letI (.add (.v 23) (.c 1)) (.letL (.set 2 (.v 24) (.v 1)) (.letI (.add (.v 23) (.c 2)) (.letL (.set 3 (.v 25) (.v 2)) (.letI (.add (.v 23) (.c 3)) (.letL (.set 4 (.v 26) (.v 3)) (.letI (.add (.c 32) (.v 13)) (.letL (.set 5 (.v 27) (.v 22)) (.done [.c (1)] [6]))))))))))))))))))))))))))) (.done [.c (0)] [0]))))))))))))))
theorem rFill_tree : (L2.rFill).exe Tryz.prog (withS (L2.cfg2 Tryz.prog) [L2.rFind0]) [] 3 200 = rFill_t := by kernel_rfl
theorem rFill_vc (Q : List Int → List (List Int) → Prop) (v0 v1 v2 v3 : Int) (L0 : List Int) : rFill_t.dn ⟨Q, []⟩ 4 [v3, v2, v1, v0] 1 [L0] = (((v0 < (0 : Int)) → Q [(0 : Int)] [L0]) ∧
(((0 : Int) ≤ v0) → (((4 : Int) ≤ v0) → Q [(0 : Int)] [L0]) ∧
((v0 < (4 : Int)) → ((v1 < (0 : Int)) → Q [(0 : Int)] [L0]) ∧
(((0 : Int) ≤ v1) → (((8 : Int) ≤ v1) → Q [(0 : Int)] [L0]) ∧
((v1 < (8 : Int)) → ((v2 < (0 : Int)) → Q [(0 : Int)] [L0]) ∧
(((0 : Int) ≤ v2) → (((16 : Int) ≤ v2) → Q [(0 : Int)] [L0]) ∧
((v2 < (16 : Int)) → (((1 : Int) ≤ v3) → ∀ v11 : Int, v11 = b2i (decide (v3 ≤ (3 : Int))) → ∀ v12 : Int, v12 = b2i (v11 == 0) → (v12 ≠ 0 → Q [(0 : Int)] [L0]) ∧
(v12 = 0 → (Go.Sx.L2.rFind0).rel.pre [v0, v1] [L0] ∧
(∀ v13 : Int, (Go.Sx.L2.rFind0).rel.post [v0, v1] [L0] [v13] [] → ∀ v14 : Int, v14 = (v1).tmod (4 : Int) → ∀ v15 : Int, v15 = v14 * (2 : Int) → ∀ v16 : Int, v16 = v15 + (2 : Int) → ((v15 < v16) → ((v13 < (0 : Int)) → ∀ v19 : Int, v19 = v15 * (4 : Int) → ∀ v20 : Int, v20 = (L0).getD (v19).toNat 0 → ((v20 < (0 : Int)) → ∀ v22 : Int, v22 = v15 + (1 : Int) → ((v22 < v16) → ∀ v24 : Int, v24 = (L0).getD ((40 : Int)).toNat 0 → ∀ v25 : Int, v25 = v24 + (1 : Int) → ∀ v26 : Int, v26 = IntKind.wrap .i64 v25 → ∀ L1 : List Int, L1 = (L0).set ((40 : Int)).toNat v26 → ∀ v27 : Int, v27 = (L1).getD ((40 : Int)).toNat 0 → ∀ L2 : List Int, L2 = (L1).set (v19).toNat v0 → ∀ v28 : Int, v28 = v19 + (1 : Int) → ∀ L3 : List Int, L3 = (L2).set (v28).toNat v1 → ∀ v29 : Int, v29 = v19 + (2 : Int) → ∀ L4 : List Int, L4 = (L3).set (v29).toNat v2 → ∀ v30 : Int, v30 = v19 + (3 : Int) → ∀ L5 : List Int, L5 = (L4).set (v30).toNat v3 → ∀ v31 : Int, v31 = (32 : Int) + v15 → ∀ L6 : List Int, L6 = (L5).set (v31).toNat v27 → Q [(1 : Int)] [L6]) ∧
((v16 ≤ v22) → ∀ v24 : Int, v24 = (L0).getD ((40 : Int)).toNat 0 → ∀ v25 : Int, v25 = v24 + (1 : Int) → ∀ v26 : Int, v26 = IntKind.wrap .i64 v25 → ∀ L1 : List Int, L1 = (L0).set ((40 : Int)).toNat v26 → ∀ v27 : Int, v27 = (L1).getD ((40 : Int)).toNat 0 → ∀ L2 : List Int, L2 = (L1).set (v19).toNat v0 → ∀ v28 : Int, v28 = v19 + (1 : Int) → ∀ L3 : List Int, L3 = (L2).set (v28).toNat v1 → ∀ v29 : Int, v29 = v19 + (2 : Int) → ∀ L4 : List Int, L4 = (L3).set (v29).toNat v2 → ∀ v30 : Int, v30 = v19 + (3 : Int) → ∀ L5 : List Int, L5 = (L4).set (v30).toNat v3 → ∀ v31 : Int, v31 = (32 : Int) + v15 → ∀ L6 : List Int, L6 = (L5).set (v31).toNat v27 → Q [(1 : Int)] [L6])) ∧
(((0 : Int) ≤ v20) → ∀ v22 : Int, v22 = v15 + (1 : Int) → ((v22 < v16) → ∀ v24 : Int, v24 = v22 * (4 : Int) → ∀ v25 : Int, v25 = (L0).getD (v24).toNat 0 → ((v25 < (0 : Int)) → ∀ v27 : Int, v27 = v22 + (1 : Int) → ((v27 < v16) → ∀ v29 : Int, v29 = (L0).getD ((40 : Int)).toNat 0 → ∀ v30 : Int, v30 = v29 + (1 : Int) → ∀ v31 : Int, v31 = IntKind.wrap .i64 v30 → ∀ L1 : List Int, L1 = (L0).set ((40 : Int)).toNat v31 → ∀ v32 : Int, v32 = (L1).getD ((40 : Int)).toNat 0 → ∀ L2 : List Int, L2 = (L1).set (v24).toNat v0 → ∀ v33 : Int, v33 = v24 + (1 : Int) → ∀ L3 : List Int, L3 = (L2).set (v33).toNat v1 → ∀ v34 : Int, v34 = v24 + (2 : Int) → ∀ L4 : List Int, L4 = (L3).set (v34).toNat v2 → ∀ v35 : Int, v35 = v24 + (3 : Int) → ∀ L5 : List Int, L5 = (L4).set (v35).toNat v3 → ∀ v36 : Int, v36 = (32 : Int) + v22 → ∀ L6 : List Int, L6 = (L5).set (v36).toNat v32 → Q [(1 : Int)] [L6]) ∧
((v16 ≤ v27) → ∀ v29 : Int, v29 = (L0).getD ((40 : Int)).toNat 0 → ∀ v30 : Int, v30 = v29 + (1 : Int) → ∀ v31 : Int, v31 = IntKind.wrap .i64 v30 → ∀ L1 : List Int, L1 = (L0).set ((40 : Int)).toNat v31 → ∀ v32 : Int, v32 = (L1).getD ((40 : Int)).toNat 0 → ∀ L2 : List Int, L2 = (L1).set (v24).toNat v0 → ∀ v33 : Int, v33 = v24 + (1 : Int) → ∀ L3 : List Int, L3 = (L2).set (v33).toNat v1 → ∀ v34 : Int, v34 = v24 + (2 : Int) → ∀ L4 : List Int, L4 = (L3).set (v34).toNat v2 → ∀ v35 : Int, v35 = v24 + (3 : Int) → ∀ L5 : List Int, L5 = (L4).set (v35).toNat v3 → ∀ v36 : Int, v36 = (32 : Int) + v22 → ∀ L6 : List Int, L6 = (L5).set (v36).toNat v32 → Q [(1 : Int)] [L6])) ∧
(((0 : Int) ≤ v25) → ∀ v27 : Int, v27 = v22 + (1 : Int) → ((v27 < v16) → ∀ v29 : Int, v29 = v27 * (4 : Int) → ∀ v30 : Int, v30 = (L0).getD (v29).toNat 0 → ((v30 < (0 : Int)) → ∀ v32 : Int, v32 = v27 + (1 : Int) → False) ∧
(((0 : Int) ≤ v30) → ∀ v32 : Int, v32 = v27 + (1 : Int) → False)) ∧
((v16 ≤ v27) → ∀ v29 : Int, v29 = (32 : Int) + v22 → ∀ v30 : Int, v30 = (L0).getD (v29).toNat 0 → ∀ v31 : Int, v31 = (32 : Int) + v15 → ∀ v32 : Int, v32 = (L0).getD (v31).toNat 0 → ((v30 < v32) → ∀ v34 : Int, v34 = (L0).getD ((40 : Int)).toNat 0 → ∀ v35 : Int, v35 = v34 + (1 : Int) → ∀ v36 : Int, v36 = IntKind.wrap .i64 v35 → ∀ L1 : List Int, L1 = (L0).set ((40 : Int)).toNat v36 → ∀ v37 : Int, v37 = (L1).getD ((40 : Int)).toNat 0 → ∀ L2 : List Int, L2 = (L1).set (v24).toNat v0 → ∀ v38 : Int, v38 = v24 + (1 : Int) → ∀ L3 : List Int, L3 = (L2).set (v38).toNat v1 → ∀ v39 : Int, v39 = v24 + (2 : Int) → ∀ L4 : List Int, L4 = (L3).set (v39).toNat v2 → ∀ v40 : Int, v40 = v24 + (3 : Int) → ∀ L5 : List Int, L5 = (L4).set (v40).toNat v3 → ∀ L6 : List Int, L6 = (L5).set (v29).toNat v37 → Q [(1 : Int)] [L6]) ∧
((v32 ≤ v30) → ∀ v34 : Int, v34 = (L0).getD ((40 : Int)).toNat 0 → ∀ v35 : Int, v35 = v34 + (1 : Int) → ∀ v36 : Int, v36 = IntKind.wrap .i64 v35 → ∀ L1 : List Int, L1 = (L0).set ((40 : Int)).toNat v36 → ∀ v37 : Int, v37 = (L1).getD ((40 : Int)).toNat 0 → ∀ L2 : List Int, L2 = (L1).set (v19).toNat v0 → ∀ v38 : Int, v38 = v19 + (1 : Int) → ∀ L3 : List Int, L3 = (L2).set (v38).toNat v1 → ∀ v39 : Int, v39 = v19 + (2 : Int) → ∀ L4 : List Int, L4 = (L3).set (v39).toNat v2 → ∀ v40 : Int, v40 = v19 + (3 : Int) → ∀ L5 : List Int, L5 = (L4).set (v40).toNat v3 → ∀ L6 : List Int, L6 = (L5).set (v31).toNat v37 → Q [(1 : Int)] [L6])))) ∧
((v16 ≤ v22) → ∀ v24 : Int, v24 = (32 : Int) + v22 → ∀ v25 : Int, v25 = (L0).getD (v24).toNat 0 → ∀ v26 : Int, v26 = (32 : Int) + v15 → ∀ v27 : Int, v27 = (L0).getD (v26).toNat 0 → ((v25 < v27) → ∀ v29 : Int, v29 = (L0).getD ((40 : Int)).toNat 0 → ∀ v30 : Int, v30 = v29 + (1 : Int) → ∀ v31 : Int, v31 = IntKind.wrap .i64 v30 → ∀ L1 : List Int, L1 = (L0).set ((40 : Int)).toNat v31 → ∀ v32 : Int, v32 = (L1).getD ((40 : Int)).toNat 0 → ∀ v33 : Int, v33 = v22 * (4 : Int) → ∀ L2 : List Int, L2 = (L1).set (v33).toNat v0 → ∀ v34 : Int, v34 = v33 + (1 : Int) → ∀ L3 : List Int, L3 = (L2).set (v34).toNat v1 → ∀ v35 : Int, v35 = v33 + (2 : Int) → ∀ L4 : List Int, L4 = (L3).set (v35).toNat v2 → ∀ v36 : Int, v36 = v33 + (3 : Int) → ∀ L5 : List Int, L5 = (L4).set (v36).toNat v3 → ∀ L6 : List Int, L6 = (L5).set (v24).toNat v32 → Q [(1 : Int)] [L6]) ∧
((v27 ≤ v25) → ∀ v29 : Int, v29 = (L0).getD ((40 : Int)).toNat 0 → ∀ v30 : Int, v30 = v29 + (1 : Int) → ∀ v31 : Int, v31 = IntKind.wrap .i64 v30 → ∀ L1 : List Int, L1 = (L0).set ((40 : Int)).toNat v31 → ∀ v32 : Int, v32 = (L1).getD ((40 : Int)).toNat 0 → ∀ L2 : List Int, L2 = (L1).set (v19).toNat v0 → ∀ v33 : Int, v33 = v19 + (1 : Int) → ∀ L3 : List Int, L3 = (L2).set (v33).toNat v1 → ∀ v34 : Int, v34 = v19 + (2 : Int) → ∀ L4 : List Int, L4 = (L3).set (v34).toNat v2 → ∀ v35 : Int, v35 = v19 + (3 : Int) → ∀ L5 : List Int, L5 = (L4).set (v35).toNat v3 → ∀ L6 : List Int, L6 = (L5).set (v26).toNat v32 → Q [(1 : Int)] [L6])))) ∧
(((0 : Int) ≤ v13) → ∀ v19 : Int, v19 = (L0).getD ((40 : Int)).toNat 0 → ∀ v20 : Int, v20 = v19 + (1 : Int) → ∀ v21 : Int, v21 = IntKind.wrap .i64 v20 → ∀ L1 : List Int, L1 = (L0).set ((40 : Int)).toNat v21 → ∀ v22 : Int, v22 = (L1).getD ((40 : Int)).toNat 0 → ∀ v23 : Int, v23 = v13 * (4 : Int) → ∀ L2 : List Int, L2 = (L1).set (v23).toNat v0 → ∀ v24 : Int, v24 = v23 + (1 : Int) → ∀ L3 : List Int, L3 = (L2).set (v24).toNat v1 → ∀ v25 : Int, v25 = v23 + (2 : Int) → ∀ L4 : List Int, L4 = (L3).set (v25).toNat v2 → ∀ v26 : Int, v26 = v23 + (3 : Int) → ∀ L5 : List Int, L5 = (L4).set (v26).toNat v3 → ∀ v27 : Int, v27 = (32 : Int) + v13 → ∀ L6 : List Int, L6 = (L5).set (v27).toNat v22 → Q [(1 : Int)] [L6])) ∧
((v16 ≤ v15) → ((v13 < (0 : Int)) → ∀ v19 : Int, v19 = v15 + (1 : Int) → ∀ v20 : Int, v20 = (32 : Int) + v19 → ∀ v21 : Int, v21 = (L0).getD (v20).toNat 0 → ∀ v22 : Int, v22 = (32 : Int) + v15 → ∀ v23 : Int, v23 = (L0).getD (v22).toNat 0 → ((v21 < v23) → ∀ v25 : Int, v25 = (L0).getD ((40 : Int)).toNat 0 → ∀ v26 : Int, v26 = v25 + (1 : Int) → ∀ v27 : Int, v27 = IntKind.wrap .i64 v26 → ∀ L1 : List Int, L1 = (L0).set ((40 : Int)).toNat v27 → ∀ v28 : Int, v28 = (L1).getD ((40 : Int)).toNat 0 → ∀ v29 : Int, v29 = v19 * (4 : Int) → ∀ L2 : List Int, L2 = (L1).set (v29).toNat v0 → ∀ v30 : Int, v30 = v29 + (1 : Int) → ∀ L3 : List Int, L3 = (L2).set (v30).toNat v1 → ∀ v31 : Int, v31 = v29 + (2 : Int) → ∀ L4 : List Int, L4 = (L3).set (v31).toNat v2 → ∀ v32 : Int, v32 = v29 + (3 : Int) → ∀ L5 : List Int, L5 = (L4).set (v32).toNat v3 → ∀ L6 : List Int, L6 = (L5).set (v20).toNat v28 → Q [(1 : Int)] [L6]) ∧
((v23 ≤ v21) → ∀ v25 : Int, v25 = (L0).getD ((40 : Int)).toNat 0 → ∀ v26 : Int, v26 = v25 + (1 : Int) → ∀ v27 : Int, v27 = IntKind.wrap .i64 v26 → ∀ L1 : List Int, L1 = (L0).set ((40 : Int)).toNat v27 → ∀ v28 : Int, v28 = (L1).getD ((40 : Int)).toNat 0 → ∀ v29 : Int, v29 = v15 * (4 : Int) → ∀ L2 : List Int, L2 = (L1).set (v29).toNat v0 → ∀ v30 : Int, v30 = v29 + (1 : Int) → ∀ L3 : List Int, L3 = (L2).set (v30).toNat v1 → ∀ v31 : Int, v31 = v29 + (2 : Int) → ∀ L4 : List Int, L4 = (L3).set (v31).toNat v2 → ∀ v32 : Int, v32 = v29 + (3 : Int) → ∀ L5 : List Int, L5 = (L4).set (v32).toNat v3 → ∀ L6 : List Int, L6 = (L5).set (v22).toNat v28 → Q [(1 : Int)] [L6])) ∧
(((0 : Int) ≤ v13) → ∀ v19 : Int, v19 = (L0).getD ((40 : Int)).toNat 0 → ∀ v20 : Int, v20 = v19 + (1 : Int) → ∀ v21 : Int, v21 = IntKind.wrap .i64 v20 → ∀ L1 : List Int, L1 = (L0).set ((40 : Int)).toNat v21 → ∀ v22 : Int, v22 = (L1).getD ((40 : Int)).toNat 0 → ∀ v23 : Int, v23 = v13 * (4 : Int) → ∀ L2 : List Int, L2 = (L1).set (v23).toNat v0 → ∀ v24 : Int, v24 = v23 + (1 : Int) → ∀ L3 : List Int, L3 = (L2).set (v24).toNat v1 → ∀ v25 : Int, v25 = v23 + (2 : Int) → ∀ L4 : List Int, L4 = (L3).set (v25).toNat v2 → ∀ v26 : Int, v26 = v23 + (3 : Int) → ∀ L5 : List Int, L5 = (L4).set (v26).toNat v3 → ∀ v27 : Int, v27 = (32 : Int) + v13 → ∀ L6 : List Int, L6 = (L5).set (v27).toNat v22 → Q [(1 : Int)] [L6]))))) ∧
((v3 < (1 : Int)) → Q [(0 : Int)] [L0])))))))) := by kernel_rfl
set_option maxHeartbeats 4000000 in
theorem rFill_holds : (L2.rFill).Holds Tryz.prog L2.ro := FSpec.holdsV (cfg := withS (L2.cfg2 Tryz.prog) [L2.rFind0]) [] 3 200 ra_ok mixed (t := rFill_t) rFill_tree (by
  show ∀ (v0 v1 v2 v3 : Int) (L0 : List Int), _
  intro v0 v1 v2 v3 L0 hp hr hl
  replace hr : (((-9223372036854775808) : Int) ≤ v0 ∧ v0 ≤ ((9223372036854775807) : Int)) ∧ (((-9223372036854775808) : Int) ≤ v1 ∧ v1 ≤ ((9223372036854775807) : Int)) ∧ (((-9223372036854775808) : Int) ≤ v2 ∧ v2 ≤ ((9223372036854775807) : Int)) ∧ (((-9223372036854775808) : Int) ≤ v3 ∧ v3 ≤ ((9223372036854775807) : Int)) ∧ True := hr
  replace hl : (∀ x ∈ L0, (((-9223372036854775808) : Int) ≤ x ∧ x ≤ ((9223372036854775807) : Int))) ∧ True := hl
  show rFill_t.dn ⟨_, []⟩ 4 [v3, v2, v1, v0] 1 [L0]
  rw [rFill_vc]
  have hrf := rfB_range L0 v0 v1 8
  have tm : 0 ≤ v1 → v1.tmod 4 = v1 % 4 := fun h => Int.tmod_eq_emod_of_nonneg h
  simp only [fnSpec_post, fnSpec_pre, true_and, List.cons.injEq, and_true, List.getD_cons_zero, List.getD_cons_succ, and_imp, forall_eq, b2i_zero, b2i_eq, ne_eq, Bool.not_eq_false, Bool.not_eq_true', Bool.not_eq_false', decide_eq_true_eq, decide_eq_false_iff_not, Int.not_lt, Int.not_le]
  repeat' first | refine And.intro ?_ ?_ | intro _
  all_goals clear hr hl hp
  all_goals first | omega | skip
  all_goals grind [lineOk, fillR, placeR, putR, roomR, gI, b2i, rightsB])
noncomputable def rFlush_t : Tree := .call 114 (Go.Sx.L2.rFind0).rel [.v 0, .v 1] [0] 1 0 (.letI (.cmp .leq (.c 0) (.v 2)) (.ite (.v 3) (.letI (.mul (.v 2) (.c 4)) (.letL (.set 0 (.v 4) (.c (-1))) (.letI (.add (.v 4) (.c 1)) (.letL (.set 1 (.v 5) (.c 0)) (.letI (.add (.v 4) (.c 2)) (.letL (.set 2 (.v 6) (.c 0)) (.letI (.add (.v 4) (.c 3)) (.letL (.set 3 (.v 7) (.c 0)) (.done [.c (1)] [4]))))))))) (.done [.c (0)] [0])))
theorem rFlush_tree : (L2.rFlush).exe Tryz.prog (withS (L2.cfg2 Tryz.prog) [L2.rFind0]) [] 20 200 = rFlush_t := by kernel_rfl
theorem rFlush_vc (Q : List Int → List (List Int) → Prop) (v0 v1 : Int) (L0 : List Int) : rFlush_t.dn ⟨Q, []⟩ 2 [v1, v0] 1 [L0] = ((Go.Sx.L2.rFind0).rel.pre [v0, v1] [L0] ∧
(∀ v2 : Int, (Go.Sx.L2.rFind0).rel.post [v0, v1] [L0] [v2] [] → (((0 : Int) ≤ v2) → ∀ v4 : Int, v4 = v2 * (4 : Int) → ∀ L1 : List Int, L1 = (L0).set (v4).toNat ((-1) : Int) → ∀ v5 : Int, v5 = v4 + (1 : Int) → ∀ L2 : List Int, L2 = (L1).set (v5).toNat (0 : Int) → ∀ v6 : Int, v6 = v4 + (2 : Int) → ∀ L3 : List Int, L3 = (L2).set (v6).toNat (0 : Int) → ∀ v7 : Int, v7 = v4 + (3 : Int) → ∀ L4 : List Int, L4 = (L3).set (v7).toNat (0 : Int) → Q [(1 : Int)] [L4]) ∧
((v2 < (0 : Int)) → Q [(0 : Int)] [L0]))) := by kernel_rfl
set_option maxHeartbeats 4000000 in
theorem rFlush_holds : (L2.rFlush).Holds Tryz.prog L2.ro := FSpec.holdsV (cfg := withS (L2.cfg2 Tryz.prog) [L2.rFind0]) [] 20 200 ra_ok mixed (t := rFlush_t) rFlush_tree (by
  show ∀ (v0 v1 : Int) (L0 : List Int), _
  intro v0 v1 L0 hp hr hl
  replace hr : (((-9223372036854775808) : Int) ≤ v0 ∧ v0 ≤ ((9223372036854775807) : Int)) ∧ (((-9223372036854775808) : Int) ≤ v1 ∧ v1 ≤ ((9223372036854775807) : Int)) ∧ True := hr
  replace hl : (∀ x ∈ L0, (((-9223372036854775808) : Int) ≤ x ∧ x ≤ ((9223372036854775807) : Int))) ∧ True := hl
  show rFlush_t.dn ⟨_, []⟩ 2 [v1, v0] 1 [L0]
  rw [rFlush_vc]
  have hrf := rfB_range L0 v0 v1 8
  simp only [fnSpec_post, fnSpec_pre, true_and, List.cons.injEq, and_true, List.getD_cons_zero, List.getD_cons_succ, and_imp, forall_eq, b2i_zero, b2i_eq, ne_eq, Bool.not_eq_false, Bool.not_eq_true', Bool.not_eq_false', decide_eq_true_eq, decide_eq_false_iff_not, Int.not_lt, Int.not_le]
  repeat' first | refine And.intro ?_ ?_ | intro _
  all_goals clear hr hl hp
  all_goals first | omega | skip
  all_goals grind [flushR, noneR, gI, b2i])
noncomputable def rEvict_t : Tree := .letI (.cmp .lss (.v 0) (.c 0)) (.ite (.v 2) (.done [.c (0)] [0]) (.letI (.cmp .leq (.c 4) (.v 0)) (.ite (.v 3) (.done [.c (0)] [0]) (.letI (.cmp .lss (.v 1) (.c 0)) (.ite (.v 4) (.done [.c (0)] [0]) (.letI (.cmp .leq (.c 2) (.v 1)) (.ite (.v 5) (.done [.c (0)] [0]) (.letI (.mul (.v 0) (.c 2)) (.letI (.add (.v 6) (.v 1)) (.letI (.mul (.v 7) (.c 4)) (.letI (.get 0 (.v 8)) (.letI (.cmp .leq (.c 0) (.v 9)) (.letL (.set 0 (.v 8) (.c (-1))) (.letI (.add (.v 8) (.c 1)) (.letL (.set 1 (.v 11) (.c 0)) (.letI (.add (.v 8) (.c 2)) (.letL (.set 2 (.v 12) (.c 0)) (.letI (.add (.v 8) (.c 3)) (.letL (.set 3 (.v 13) (.c 0)) (.done [.v 10] [4]))))))))))))))))))))
theorem rEvict_tree : (L2.rEvict).exe Tryz.prog (withS (L2.cfg2 Tryz.prog) [L2.rFind0]) [] 20 200 = rEvict_t := by kernel_rfl
theorem rEvict_vc (Q : List Int → List (List Int) → Prop) (v0 v1 : Int) (L0 : List Int) : rEvict_t.dn ⟨Q, []⟩ 2 [v1, v0] 1 [L0] = (((v0 < (0 : Int)) → Q [(0 : Int)] [L0]) ∧
(((0 : Int) ≤ v0) → (((4 : Int) ≤ v0) → Q [(0 : Int)] [L0]) ∧
((v0 < (4 : Int)) → ((v1 < (0 : Int)) → Q [(0 : Int)] [L0]) ∧
(((0 : Int) ≤ v1) → (((2 : Int) ≤ v1) → Q [(0 : Int)] [L0]) ∧
((v1 < (2 : Int)) → ∀ v6 : Int, v6 = v0 * (2 : Int) → ∀ v7 : Int, v7 = v6 + v1 → ∀ v8 : Int, v8 = v7 * (4 : Int) → ∀ v9 : Int, v9 = (L0).getD (v8).toNat 0 → ∀ v10 : Int, v10 = b2i (decide ((0 : Int) ≤ v9)) → ∀ L1 : List Int, L1 = (L0).set (v8).toNat ((-1) : Int) → ∀ v11 : Int, v11 = v8 + (1 : Int) → ∀ L2 : List Int, L2 = (L1).set (v11).toNat (0 : Int) → ∀ v12 : Int, v12 = v8 + (2 : Int) → ∀ L3 : List Int, L3 = (L2).set (v12).toNat (0 : Int) → ∀ v13 : Int, v13 = v8 + (3 : Int) → ∀ L4 : List Int, L4 = (L3).set (v13).toNat (0 : Int) → Q [v10] [L4]))))) := by kernel_rfl
set_option maxHeartbeats 4000000 in
theorem rEvict_holds : (L2.rEvict).Holds Tryz.prog L2.ro := FSpec.holdsV (cfg := withS (L2.cfg2 Tryz.prog) [L2.rFind0]) [] 20 200 ra_ok mixed (t := rEvict_t) rEvict_tree (by
  show ∀ (v0 v1 : Int) (L0 : List Int), _
  intro v0 v1 L0 hp hr hl
  replace hr : (((-9223372036854775808) : Int) ≤ v0 ∧ v0 ≤ ((9223372036854775807) : Int)) ∧ (((-9223372036854775808) : Int) ≤ v1 ∧ v1 ≤ ((9223372036854775807) : Int)) ∧ True := hr
  replace hl : (∀ x ∈ L0, (((-9223372036854775808) : Int) ≤ x ∧ x ≤ ((9223372036854775807) : Int))) ∧ True := hl
  show rEvict_t.dn ⟨_, []⟩ 2 [v1, v0] 1 [L0]
  rw [rEvict_vc]
  simp only [fnSpec_post, fnSpec_pre, true_and, List.cons.injEq, and_true, List.getD_cons_zero, List.getD_cons_succ, and_imp, forall_eq, b2i_zero, b2i_eq, ne_eq, Bool.not_eq_false, Bool.not_eq_true', Bool.not_eq_false', decide_eq_true_eq, decide_eq_false_iff_not, Int.not_lt, Int.not_le]
  repeat' first | refine And.intro ?_ ?_ | intro _
  all_goals clear hr hl hp
  all_goals first | omega | skip
  all_goals grind [evictR, evictROk, evictIn, noneR, gI, b2i])
noncomputable def rFlushFrame_t : Tree := .loop [.c (0), .c (0)] [0] (.letI (.cmp .lss (.v 1) (.c 8)) (.ite (.v 3) (.letI (.mul (.v 1) (.c 4)) (.letI (.get 1 (.v 4)) (.letI (.cmp .leq (.c 0) (.v 5)) (.ite (.v 6) (.letI (.add (.v 4) (.c 2)) (.letI (.get 1 (.v 7)) (.letI (.cmp .eql (.v 0) (.v 8)) (.ite (.v 9) (.letL (.set 1 (.v 4) (.c (-1))) (.letI (.add (.v 4) (.c 1)) (.letL (.set 2 (.v 10) (.c 0)) (.letL (.set 3 (.v 7) (.c 0)) (.letI (.add (.v 4) (.c 3)) (.letL (.set 4 (.v 11) (.c 0)) (.letI (.add (.v 2) (.c 1)) (.letI (.add (.v 1) (.c 1)) (.need .leq (.v 12) (.c 8) (.again [.v 13, .v 12] [5])))))))))) (.letI (.add (.v 1) (.c 1)) (.again [.v 10, .v 2] [1])))))) (.letI (.add (.v 1) (.c 1)) (.again [.v 7, .v 2] [1])))))) (.exit (.done [.v 2] [1]))))
theorem rFlushFrame_tree : (L2.rFlushFrame).exe Tryz.prog (withS (L2.cfg2 Tryz.prog) [L2.rFind0]) [{ f := 92, reg := 3, ints := [(7, 0, 8), (5, 0, 8)], lists := [(0, [], some (-9223372036854775808, 9223372036854775807))] }] 20 200 = rFlushFrame_t := by kernel_rfl
theorem rFlushFrame_vc (Q : List Int → List (List Int) → Prop) (v0 : Int) (L0 : List Int) : rFlushFrame_t.dn ⟨Q, []⟩ 1 [v0] 1 [L0] = (∃ (I0 : List Int → List (List Int) → Prop) (μ0 : List Int → List (List Int) → Nat), I0 [(0 : Int), (0 : Int)] [L0] ∧
(∀ v1 : Int, ∀ v2 : Int, ∀ L1 : List Int, I0 [v1, v2] [L1] →
 ((v1 < (8 : Int)) → ∀ v4 : Int, v4 = v1 * (4 : Int) → ∀ v5 : Int, v5 = (L1).getD (v4).toNat 0 → (((0 : Int) ≤ v5) → ∀ v7 : Int, v7 = v4 + (2 : Int) → ∀ v8 : Int, v8 = (L1).getD (v7).toNat 0 → ((v0 = v8) → ∀ L2 : List Int, L2 = (L1).set (v4).toNat ((-1) : Int) → ∀ v10 : Int, v10 = v4 + (1 : Int) → ∀ L3 : List Int, L3 = (L2).set (v10).toNat (0 : Int) → ∀ L4 : List Int, L4 = (L3).set (v7).toNat (0 : Int) → ∀ v11 : Int, v11 = v4 + (3 : Int) → ∀ L5 : List Int, L5 = (L4).set (v11).toNat (0 : Int) → ∀ v12 : Int, v12 = v2 + (1 : Int) → ∀ v13 : Int, v13 = v1 + (1 : Int) → (v12 ≤ (8 : Int)) ∧ (I0 [v13, v12] [L5] ∧ μ0 [v13, v12] [L5] < μ0 [v1, v2] [L1])) ∧
((v0 ≠ v8) → ∀ v10 : Int, v10 = v1 + (1 : Int) → (I0 [v10, v2] [L1] ∧ μ0 [v10, v2] [L1] < μ0 [v1, v2] [L1]))) ∧
((v5 < (0 : Int)) → ∀ v7 : Int, v7 = v1 + (1 : Int) → (I0 [v7, v2] [L1] ∧ μ0 [v7, v2] [L1] < μ0 [v1, v2] [L1]))) ∧
(((8 : Int) ≤ v1) → Q [v2] [L1]))) := by kernel_rfl
set_option maxHeartbeats 4000000 in
theorem rFlushFrame_holds : (L2.rFlushFrame).Holds Tryz.prog L2.ro := FSpec.holdsV (cfg := withS (L2.cfg2 Tryz.prog) [L2.rFind0]) [{ f := 92, reg := 3, ints := [(7, 0, 8), (5, 0, 8)], lists := [(0, [], some (-9223372036854775808, 9223372036854775807))] }] 20 200 ra_ok mixed (t := rFlushFrame_t) rFlushFrame_tree (by
  show ∀ (v0 : Int) (L0 : List Int), _
  intro v0 L0 hp hr hl
  replace hr : (((-9223372036854775808) : Int) ≤ v0 ∧ v0 ≤ ((9223372036854775807) : Int)) ∧ True := hr
  replace hl : (∀ x ∈ L0, (((-9223372036854775808) : Int) ≤ x ∧ x ≤ ((9223372036854775807) : Int))) ∧ True := hl
  show rFlushFrame_t.dn ⟨_, []⟩ 1 [v0] 1 [L0]
  rw [rFlushFrame_vc]
  refine ⟨fun xs ys => match xs, ys with | [i, n], [L] => 0 ≤ i ∧ i ≤ 8 ∧ L = (ffR L0 v0 i.toNat).1 ∧ n = (ffR L0 v0 i.toNat).2 | _, _ => False, fun xs _ => match xs with | i :: _ => (8 - i).toNat | _ => 0, ?_, ?_⟩ <;> dsimp only
  · exact ⟨by omega, by omega, rfl, rfl⟩
  · intro v1 v2 L1 hI
    obtain ⟨i0, i8, hl1, hn⟩ := hI
    obtain ⟨k, rfl⟩ : ∃ k : Nat, v1 = k := ⟨v1.toNat, by omega⟩
    rw [Int.toNat_natCast] at hl1 hn
    have hle := ffR_le L0 v0 k
    have hs := ffR_succ L0 v0 k
    have hk1 : ((k : Int) + 1).toNat = k + 1 := by omega
    rw [← hl1, ← hn] at hs
    refine ⟨fun c1 => ?_, fun c1 => ?_⟩
    · intro v4 e4 v5 e5
      have g0 : v5 = gI L1 (k * 4) := by rw [e5, e4]; rfl
      rw [← g0] at hs
      refine ⟨fun c2 => ?_, fun c2 => ?_⟩
      · intro v7 e7 v8 e8
        have g1 : v8 = gI L1 (k * 4 + 2) := by rw [e8, e7, e4]; rfl
        rw [← g1] at hs
        refine ⟨fun c3 => ?_, fun c3 => ?_⟩
        · rw [if_pos ⟨c2, c3.symm⟩] at hs
          intro L2 e2 v10 e10 L3 e3 L4 e4' v11 e11 L5 e5' v12 e12 v13 e13
          refine ⟨by omega, ⟨by omega, by omega, ?_, ?_⟩, by omega⟩
          · rw [e13, hk1, hs, e5', e11, e4', e7, e3, e10, e2, e4]; rfl
          · rw [e13, hk1, hs, e12]
        · rw [if_neg (fun h => c3 h.2.symm)] at hs
          intro v10 e10
          refine ⟨⟨by omega, by omega, ?_, ?_⟩, by omega⟩
          · rw [e10, hk1, hs, hl1]
          · rw [e10, hk1, hs, hn]
      · rw [if_neg (fun h => by omega)] at hs
        intro v10 e10
        refine ⟨⟨by omega, by omega, ?_, ?_⟩, by omega⟩
        · rw [e10, hk1, hs, hl1]
        · rw [e10, hk1, hs, hn]
    · have hk : k = 8 := by omega
      subst hk
      show [v2] = [(ffR L0 v0 8).2] ∧ [L1] = [(ffR L0 v0 8).1]
      rw [hn, hl1]
      exact ⟨rfl, rfl⟩)
end Go.Proofs.YthjfkblnbecjgaaGreatDoor
