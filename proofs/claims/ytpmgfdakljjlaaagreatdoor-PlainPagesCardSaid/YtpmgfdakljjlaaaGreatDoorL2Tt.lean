/- Contracts: a page table's functions. -/
import Derived.Test.YtpmgfdakljjlaaaGreatDoorL2Kp
import Derived.Test.YtpmgfdakljjlaaaGreatDoorL2T
set_option linter.unusedVariables false
set_option linter.constructorNameAsVariable false
set_option linter.unusedSimpArgs false
open Go Go.Sx
namespace Go.Proofs.YtpmgfdakljjlaaaGreatDoor
set_option maxRecDepth 100000
theorem tt_ok : (withS (L2.cfg Tryz.prog) [L2.put_ L2.f_pte_Put]).Ok Tryz.prog := withS_ok cfg_ok ⟨pPut_holds, trivial⟩
noncomputable def tNew_t : Tree := .letL (.lit [.c (0), .c (0), .c (0), .c (0), .c (0), .c (0), .c (0), .c (0), .c (0), .c (0), .c (0), .c (0), .c (0), .c (0), .c (0), .c (0), .c (0), .c (0), .c (0), .c (0), .c (0), .c (0), .c (0), .c (0)]) (.done [] [0])
theorem tNew_tree : (L2.tNew).exe Tryz.prog (withS (L2.cfg Tryz.prog) [L2.put_ L2.f_pte_Put]) [] 20 200 = tNew_t := by kernel_rfl
theorem tNew_vc (Q : List Int → List (List Int) → Prop) : tNew_t.dn ⟨Q, []⟩ 0 [] 0 [] = (∀ L0 : List Int, L0 = [(0 : Int), (0 : Int), (0 : Int), (0 : Int), (0 : Int), (0 : Int), (0 : Int), (0 : Int), (0 : Int), (0 : Int), (0 : Int), (0 : Int), (0 : Int), (0 : Int), (0 : Int), (0 : Int), (0 : Int), (0 : Int), (0 : Int), (0 : Int), (0 : Int), (0 : Int), (0 : Int), (0 : Int)] → Q [] [L0]) := by kernel_rfl
set_option maxHeartbeats 4000000 in
theorem tNew_holds : (L2.tNew).Holds Tryz.prog L2.ro := FSpec.holdsV (cfg := withS (L2.cfg Tryz.prog) [L2.put_ L2.f_pte_Put]) [] 20 200 tt_ok mixed (t := tNew_t) tNew_tree (by
  show _ → _
  intro   hp hr hl
  replace hr : True := hr
  replace hl : True := hl
  show tNew_t.dn ⟨_, []⟩ 0 [] 0 []
  rw [tNew_vc]
  intro L0 e0
  subst e0
  exact ⟨rfl, rfl⟩)
noncomputable def tInsert_t : Tree := .call 71 (Go.Sx.L2.put_ Go.Sx.L2.f_pte_Put).rel [.v 1, .v 2, .v 3] [] 2 0 (.letI (.not (.v 5)) (.ite (.v 6) (.done [.c (2)] [0]) (.letI (.cmp .eql (.v 3) (.c 0)) (.ite (.v 7) (.done [.c (2)] [0]) (.letI (.cmp .leq (.c 0) (.v 0)) (.ite (.v 8) (.letI (.cmp .lss (.v 0) (.c 8)) (.letI (.not (.v 9)) (.ite (.v 10) (.done [.c (2)] [0]) (.letI (.mul (.v 0) (.c 3)) (.letI (.add (.v 11) (.c 2)) (.letI (.get 0 (.v 12)) (.letI (.cmp .neq (.v 13) (.c 0)) (.ite (.v 14) (.done [.c (4)] [0]) (.letL (.set 0 (.v 11) (.v 1)) (.letI (.add (.v 11) (.c 1)) (.letL (.set 1 (.v 15) (.v 2)) (.letL (.set 2 (.v 12) (.v 3)) (.done [.c (0)] [3]))))))))))))) (.done [.c (2)] [0])))))))
theorem tInsert_tree : (L2.tInsert).exe Tryz.prog (withS (L2.cfg Tryz.prog) [L2.put_ L2.f_pte_Put]) [] 20 200 = tInsert_t := by kernel_rfl
theorem tInsert_vc (Q : List Int → List (List Int) → Prop) (v0 v1 v2 v3 : Int) (L0 : List Int) : tInsert_t.dn ⟨Q, []⟩ 4 [v3, v2, v1, v0] 1 [L0] = ((Go.Sx.L2.put_ Go.Sx.L2.f_pte_Put).rel.pre [v1, v2, v3] [] ∧
(∀ v4 : Int, ∀ v5 : Int, (Go.Sx.L2.put_ Go.Sx.L2.f_pte_Put).rel.post [v1, v2, v3] [] [v4, v5] [] → ∀ v6 : Int, v6 = b2i (v5 == 0) → (v6 ≠ 0 → Q [(2 : Int)] [L0]) ∧
(v6 = 0 → ((v3 = (0 : Int)) → Q [(2 : Int)] [L0]) ∧
((v3 ≠ (0 : Int)) → (((0 : Int) ≤ v0) → ∀ v9 : Int, v9 = b2i (decide (v0 < (8 : Int))) → ∀ v10 : Int, v10 = b2i (v9 == 0) → (v10 ≠ 0 → Q [(2 : Int)] [L0]) ∧
(v10 = 0 → ∀ v11 : Int, v11 = v0 * (3 : Int) → ∀ v12 : Int, v12 = v11 + (2 : Int) → ∀ v13 : Int, v13 = (L0).getD (v12).toNat 0 → ((v13 ≠ (0 : Int)) → Q [(4 : Int)] [L0]) ∧
((v13 = (0 : Int)) → ∀ L1 : List Int, L1 = (L0).set (v11).toNat v1 → ∀ v15 : Int, v15 = v11 + (1 : Int) → ∀ L2 : List Int, L2 = (L1).set (v15).toNat v2 → ∀ L3 : List Int, L3 = (L2).set (v12).toNat v3 → Q [(0 : Int)] [L3]))) ∧
((v0 < (0 : Int)) → Q [(2 : Int)] [L0]))))) := by kernel_rfl
set_option maxHeartbeats 4000000 in
theorem tInsert_holds : (L2.tInsert).Holds Tryz.prog L2.ro := FSpec.holdsV (cfg := withS (L2.cfg Tryz.prog) [L2.put_ L2.f_pte_Put]) [] 20 200 tt_ok mixed (t := tInsert_t) tInsert_tree (by
  show ∀ (v0 v1 v2 v3 : Int) (L0 : List Int), _
  intro v0 v1 v2 v3 L0 hp hr hl
  replace hr : (((-9223372036854775808) : Int) ≤ v0 ∧ v0 ≤ ((9223372036854775807) : Int)) ∧ (((-9223372036854775808) : Int) ≤ v1 ∧ v1 ≤ ((9223372036854775807) : Int)) ∧ (((-9223372036854775808) : Int) ≤ v2 ∧ v2 ≤ ((9223372036854775807) : Int)) ∧ (((-9223372036854775808) : Int) ≤ v3 ∧ v3 ≤ ((9223372036854775807) : Int)) ∧ True := hr
  replace hl : (∀ x ∈ L0, (((-9223372036854775808) : Int) ≤ x ∧ x ≤ ((9223372036854775807) : Int))) ∧ True := hl
  show tInsert_t.dn ⟨_, []⟩ 4 [v3, v2, v1, v0] 1 [L0]
  rw [tInsert_vc]
  simp only [fnSpec_post, fnSpec_pre, true_and, List.cons.injEq, and_true, List.getD_cons_zero, List.getD_cons_succ, and_imp, forall_eq, b2i_zero, b2i_eq, ne_eq, Bool.not_eq_false, Bool.not_eq_true', Bool.not_eq_false', decide_eq_true_eq, decide_eq_false_iff_not, Int.not_lt, Int.not_le]
  repeat' first | refine And.intro ?_ ?_ | intro _
  all_goals clear hr hl hp
  all_goals first | grind [insE, pageOk, tG, b2i] | grind [insL, insE, pageOk, tG, tSet3, b2i])
noncomputable def tRemove_t : Tree := .letI (.cmp .leq (.c 0) (.v 0)) (.ite (.v 1) (.letI (.cmp .lss (.v 0) (.c 8)) (.letI (.not (.v 2)) (.ite (.v 3) (.done [.c (0), .c (0), .c (0), .c (2)] [0]) (.letI (.mul (.v 0) (.c 3)) (.letI (.add (.v 4) (.c 2)) (.letI (.get 0 (.v 5)) (.letI (.cmp .eql (.v 6) (.c 0)) (.ite (.v 7) (.done [.c (0), .c (0), .c (0), .c (3)] [0]) (.letI (.get 0 (.v 4)) (.letI (.add (.v 4) (.c 1)) (.letI (.get 0 (.v 9)) (.letL (.set 0 (.v 4) (.c 0)) (.letL (.set 1 (.v 9) (.c 0)) (.letL (.set 2 (.v 5) (.c 0)) (.done [.v 8, .v 10, .v 6, .c (0)] [3]))))))))))))))) (.done [.c (0), .c (0), .c (0), .c (2)] [0]))
theorem tRemove_tree : (L2.tRemove).exe Tryz.prog (withS (L2.cfg Tryz.prog) [L2.put_ L2.f_pte_Put]) [] 20 200 = tRemove_t := by kernel_rfl
theorem tRemove_vc (Q : List Int → List (List Int) → Prop) (v0 : Int) (L0 : List Int) : tRemove_t.dn ⟨Q, []⟩ 1 [v0] 1 [L0] = ((((0 : Int) ≤ v0) → ∀ v2 : Int, v2 = b2i (decide (v0 < (8 : Int))) → ∀ v3 : Int, v3 = b2i (v2 == 0) → (v3 ≠ 0 → Q [(0 : Int), (0 : Int), (0 : Int), (2 : Int)] [L0]) ∧
(v3 = 0 → ∀ v4 : Int, v4 = v0 * (3 : Int) → ∀ v5 : Int, v5 = v4 + (2 : Int) → ∀ v6 : Int, v6 = (L0).getD (v5).toNat 0 → ((v6 = (0 : Int)) → Q [(0 : Int), (0 : Int), (0 : Int), (3 : Int)] [L0]) ∧
((v6 ≠ (0 : Int)) → ∀ v8 : Int, v8 = (L0).getD (v4).toNat 0 → ∀ v9 : Int, v9 = v4 + (1 : Int) → ∀ v10 : Int, v10 = (L0).getD (v9).toNat 0 → ∀ L1 : List Int, L1 = (L0).set (v4).toNat (0 : Int) → ∀ L2 : List Int, L2 = (L1).set (v9).toNat (0 : Int) → ∀ L3 : List Int, L3 = (L2).set (v5).toNat (0 : Int) → Q [v8, v10, v6, (0 : Int)] [L3]))) ∧
((v0 < (0 : Int)) → Q [(0 : Int), (0 : Int), (0 : Int), (2 : Int)] [L0])) := by kernel_rfl
set_option maxHeartbeats 4000000 in
theorem tRemove_holds : (L2.tRemove).Holds Tryz.prog L2.ro := FSpec.holdsV (cfg := withS (L2.cfg Tryz.prog) [L2.put_ L2.f_pte_Put]) [] 20 200 tt_ok mixed (t := tRemove_t) tRemove_tree (by
  show ∀ (v0 : Int) (L0 : List Int), _
  intro v0 L0 hp hr hl
  replace hr : (((-9223372036854775808) : Int) ≤ v0 ∧ v0 ≤ ((9223372036854775807) : Int)) ∧ True := hr
  replace hl : (∀ x ∈ L0, (((-9223372036854775808) : Int) ≤ x ∧ x ≤ ((9223372036854775807) : Int))) ∧ True := hl
  show tRemove_t.dn ⟨_, []⟩ 1 [v0] 1 [L0]
  rw [tRemove_vc]
  simp only [fnSpec_post, fnSpec_pre, true_and, List.cons.injEq, and_true, List.getD_cons_zero, List.getD_cons_succ, and_imp, forall_eq, b2i_zero, b2i_eq, ne_eq, Bool.not_eq_false, Bool.not_eq_true', Bool.not_eq_false', decide_eq_true_eq, decide_eq_false_iff_not, Int.not_lt, Int.not_le]
  repeat' first | refine And.intro ?_ ?_ | intro _
  all_goals clear hr hl hp
  all_goals grind [remE, remL, remV, pageOk, tG, tSet3, rightsB, b2i])
noncomputable def tProtect_t : Tree := .letI (.cmp .leq (.c 0) (.v 0)) (.ite (.v 2) (.letI (.cmp .lss (.v 0) (.c 8)) (.letI (.not (.v 3)) (.ite (.v 4) (.done [.c (2)] [0]) (.letI (.cmp .leq (.c 1) (.v 1)) (.ite (.v 5) (.letI (.cmp .leq (.v 1) (.c 3)) (.letI (.not (.v 6)) (.ite (.v 7) (.done [.c (2)] [0]) (.letI (.mul (.v 0) (.c 3)) (.letI (.add (.v 8) (.c 2)) (.letI (.get 0 (.v 9)) (.letI (.cmp .eql (.v 10) (.c 0)) (.ite (.v 11) (.done [.c (3)] [0]) (.letL (.set 0 (.v 9) (.v 1)) (.done [.c (0)] [1])))))))))) (.done [.c (2)] [0])))))) (.done [.c (2)] [0]))
theorem tProtect_tree : (L2.tProtect).exe Tryz.prog (withS (L2.cfg Tryz.prog) [L2.put_ L2.f_pte_Put]) [] 20 200 = tProtect_t := by kernel_rfl
theorem tProtect_vc (Q : List Int → List (List Int) → Prop) (v0 v1 : Int) (L0 : List Int) : tProtect_t.dn ⟨Q, []⟩ 2 [v1, v0] 1 [L0] = ((((0 : Int) ≤ v0) → ∀ v3 : Int, v3 = b2i (decide (v0 < (8 : Int))) → ∀ v4 : Int, v4 = b2i (v3 == 0) → (v4 ≠ 0 → Q [(2 : Int)] [L0]) ∧
(v4 = 0 → (((1 : Int) ≤ v1) → ∀ v6 : Int, v6 = b2i (decide (v1 ≤ (3 : Int))) → ∀ v7 : Int, v7 = b2i (v6 == 0) → (v7 ≠ 0 → Q [(2 : Int)] [L0]) ∧
(v7 = 0 → ∀ v8 : Int, v8 = v0 * (3 : Int) → ∀ v9 : Int, v9 = v8 + (2 : Int) → ∀ v10 : Int, v10 = (L0).getD (v9).toNat 0 → ((v10 = (0 : Int)) → Q [(3 : Int)] [L0]) ∧
((v10 ≠ (0 : Int)) → ∀ L1 : List Int, L1 = (L0).set (v9).toNat v1 → Q [(0 : Int)] [L1]))) ∧
((v1 < (1 : Int)) → Q [(2 : Int)] [L0]))) ∧
((v0 < (0 : Int)) → Q [(2 : Int)] [L0])) := by kernel_rfl
set_option maxHeartbeats 4000000 in
theorem tProtect_holds : (L2.tProtect).Holds Tryz.prog L2.ro := FSpec.holdsV (cfg := withS (L2.cfg Tryz.prog) [L2.put_ L2.f_pte_Put]) [] 20 200 tt_ok mixed (t := tProtect_t) tProtect_tree (by
  show ∀ (v0 v1 : Int) (L0 : List Int), _
  intro v0 v1 L0 hp hr hl
  replace hr : (((-9223372036854775808) : Int) ≤ v0 ∧ v0 ≤ ((9223372036854775807) : Int)) ∧ (((-9223372036854775808) : Int) ≤ v1 ∧ v1 ≤ ((9223372036854775807) : Int)) ∧ True := hr
  replace hl : (∀ x ∈ L0, (((-9223372036854775808) : Int) ≤ x ∧ x ≤ ((9223372036854775807) : Int))) ∧ True := hl
  show tProtect_t.dn ⟨_, []⟩ 2 [v1, v0] 1 [L0]
  rw [tProtect_vc]
  simp only [fnSpec_post, fnSpec_pre, true_and, List.cons.injEq, and_true, List.getD_cons_zero, List.getD_cons_succ, and_imp, forall_eq, b2i_zero, b2i_eq, ne_eq, Bool.not_eq_false, Bool.not_eq_true', Bool.not_eq_false', decide_eq_true_eq, decide_eq_false_iff_not, Int.not_lt, Int.not_le]
  repeat' first | refine And.intro ?_ ?_ | intro _
  all_goals clear hr hl hp
  all_goals grind [proE, proL, remV, pageOk, tG, tSet3, rightsB, b2i])
noncomputable def tAt_t : Tree := .letI (.cmp .leq (.c 0) (.v 0)) (.ite (.v 1) (.letI (.cmp .lss (.v 0) (.c 8)) (.letI (.not (.v 2)) (.ite (.v 3) (.done [.c (0), .c (0), .c (0), .c (0)] []) (.letI (.mul (.v 0) (.c 3)) (.letI (.add (.v 4) (.c 2)) (.letI (.get 0 (.v 5)) (.letI (.cmp .eql (.v 6) (.c 0)) (.ite (.v 7) (.done [.c (0), .c (0), .c (0), .c (0)] []) (.letI (.get 0 (.v 4)) (.letI (.add (.v 4) (.c 1)) (.letI (.get 0 (.v 9)) (.done [.v 8, .v 10, .v 6, .c (1)] [])))))))))))) (.done [.c (0), .c (0), .c (0), .c (0)] []))
theorem tAt_tree : (L2.tAt).exe Tryz.prog (withS (L2.cfg Tryz.prog) [L2.put_ L2.f_pte_Put]) [] 20 200 = tAt_t := by kernel_rfl
theorem tAt_vc (Q : List Int → List (List Int) → Prop) (v0 : Int) (L0 : List Int) : tAt_t.dn ⟨Q, []⟩ 1 [v0] 1 [L0] = ((((0 : Int) ≤ v0) → ∀ v2 : Int, v2 = b2i (decide (v0 < (8 : Int))) → ∀ v3 : Int, v3 = b2i (v2 == 0) → (v3 ≠ 0 → Q [(0 : Int), (0 : Int), (0 : Int), (0 : Int)] []) ∧
(v3 = 0 → ∀ v4 : Int, v4 = v0 * (3 : Int) → ∀ v5 : Int, v5 = v4 + (2 : Int) → ∀ v6 : Int, v6 = (L0).getD (v5).toNat 0 → ((v6 = (0 : Int)) → Q [(0 : Int), (0 : Int), (0 : Int), (0 : Int)] []) ∧
((v6 ≠ (0 : Int)) → ∀ v8 : Int, v8 = (L0).getD (v4).toNat 0 → ∀ v9 : Int, v9 = v4 + (1 : Int) → ∀ v10 : Int, v10 = (L0).getD (v9).toNat 0 → Q [v8, v10, v6, (1 : Int)] []))) ∧
((v0 < (0 : Int)) → Q [(0 : Int), (0 : Int), (0 : Int), (0 : Int)] [])) := by kernel_rfl
set_option maxHeartbeats 4000000 in
theorem tAt_holds : (L2.tAt).Holds Tryz.prog L2.ro := FSpec.holdsV (cfg := withS (L2.cfg Tryz.prog) [L2.put_ L2.f_pte_Put]) [] 20 200 tt_ok mixed (t := tAt_t) tAt_tree (by
  show ∀ (v0 : Int) (L0 : List Int), _
  intro v0 L0 hp hr hl
  replace hr : (((-9223372036854775808) : Int) ≤ v0 ∧ v0 ≤ ((9223372036854775807) : Int)) ∧ True := hr
  replace hl : (∀ x ∈ L0, (((-9223372036854775808) : Int) ≤ x ∧ x ≤ ((9223372036854775807) : Int))) ∧ True := hl
  show tAt_t.dn ⟨_, []⟩ 1 [v0] 1 [L0]
  rw [tAt_vc]
  simp only [fnSpec_post, fnSpec_pre, true_and, List.cons.injEq, and_true, List.getD_cons_zero, List.getD_cons_succ, and_imp, forall_eq, b2i_zero, b2i_eq, ne_eq, Bool.not_eq_false, Bool.not_eq_true', Bool.not_eq_false', decide_eq_true_eq, decide_eq_false_iff_not, Int.not_lt, Int.not_le]
  repeat' first | refine And.intro ?_ ?_ | intro _
  all_goals clear hr hl hp
  all_goals grind [atOk, atV, pageOk, tG, b2i])
noncomputable def tBy_t : Tree := .letI (.get 0 (.c 0)) (.letI (.get 0 (.c 1)) (.letI (.get 0 (.c 2)) (.letI (.get 0 (.c 3)) (.letI (.get 0 (.c 4)) (.letI (.get 0 (.c 5)) (.letI (.get 0 (.c 6)) (.letI (.get 0 (.c 7)) (.letI (.get 0 (.c 8)) (.letI (.get 0 (.c 9)) (.letI (.get 0 (.c 10)) (.letI (.get 0 (.c 11)) (.letI (.get 0 (.c 12)) (.letI (.get 0 (.c 13)) (.letI (.get 0 (.c 14)) (.letI (.get 0 (.c 15)) (.letI (.get 0 (.c 16)) (.letI (.get 0 (.c 17)) (.letI (.get 0 (.c 18)) (.letI (.get 0 (.c 19)) (.letI (.get 0 (.c 20)) (.letI (.get 0 (.c 21)) (.letI (.get 0 (.c 22)) (.letI (.get 0 (.c 23)) (.letL (.lit []) (.loop [.c (0), .c (0), .c (0)] [1] (.letI (.cmp .lss (.v 25) (.c 8)) (.ite (.v 28) (.letI (.mul (.v 25) (.c 3)) (.letI (.add (.v 29) (.c 3)) (.letI (.get 0 (.v 29)) (.letI (.add (.v 29) (.c 1)) (.letI (.get 0 (.v 32)) (.letI (.add (.v 29) (.c 2)) (.letI (.get 0 (.v 34)) (.letI (.cmp .neq (.v 35) (.c 0)) (.ite (.v 36) (.letI (.cmp .eql (.v 0) (.v 33)) (.ite (.v 37) (.letL (.lit [.v 25]) (.letI (.add (.v 26) (.c 1)) (.need .leq (.v 38) (.c 1000000) (.need .leq (.v 26) (.v 27) (.letL (.app 2 3) (.any (.v 38) (.c 9223372036854775807) (.letI (.add (.v 25) (.c 1)) (.again [.v 40, .v 38, .v 39] [4])))))))) (.letI (.add (.v 25) (.c 1)) (.again [.v 38, .v 26, .v 27] [2])))) (.letI (.add (.v 25) (.c 1)) (.again [.v 37, .v 26, .v 27] [2]))))))))))) (.exit (.done [.v 26, .v 27] [2])))))))))))))))))))))))))))))
theorem tBy_tree : (L2.tBy).exe Tryz.prog (withS (L2.cfg Tryz.prog) [L2.put_ L2.f_pte_Put]) [{ f := L2.f_table_Table_By, reg := 5, ints := [(14, 0, 8)], vecs := [(5, none)], nils := [(5, [.i .i64], L2.t_int)] }] 20 200 = tBy_t := by kernel_rfl
theorem tBy_vc (Q : List Int → List (List Int) → Prop) (v0 : Int) (L0 : List Int) : tBy_t.dn ⟨Q, []⟩ 1 [v0] 1 [L0] = (∀ v1 : Int, v1 = (L0).getD ((0 : Int)).toNat 0 → ∀ v2 : Int, v2 = (L0).getD ((1 : Int)).toNat 0 → ∀ v3 : Int, v3 = (L0).getD ((2 : Int)).toNat 0 → ∀ v4 : Int, v4 = (L0).getD ((3 : Int)).toNat 0 → ∀ v5 : Int, v5 = (L0).getD ((4 : Int)).toNat 0 → ∀ v6 : Int, v6 = (L0).getD ((5 : Int)).toNat 0 → ∀ v7 : Int, v7 = (L0).getD ((6 : Int)).toNat 0 → ∀ v8 : Int, v8 = (L0).getD ((7 : Int)).toNat 0 → ∀ v9 : Int, v9 = (L0).getD ((8 : Int)).toNat 0 → ∀ v10 : Int, v10 = (L0).getD ((9 : Int)).toNat 0 → ∀ v11 : Int, v11 = (L0).getD ((10 : Int)).toNat 0 → ∀ v12 : Int, v12 = (L0).getD ((11 : Int)).toNat 0 → ∀ v13 : Int, v13 = (L0).getD ((12 : Int)).toNat 0 → ∀ v14 : Int, v14 = (L0).getD ((13 : Int)).toNat 0 → ∀ v15 : Int, v15 = (L0).getD ((14 : Int)).toNat 0 → ∀ v16 : Int, v16 = (L0).getD ((15 : Int)).toNat 0 → ∀ v17 : Int, v17 = (L0).getD ((16 : Int)).toNat 0 → ∀ v18 : Int, v18 = (L0).getD ((17 : Int)).toNat 0 → ∀ v19 : Int, v19 = (L0).getD ((18 : Int)).toNat 0 → ∀ v20 : Int, v20 = (L0).getD ((19 : Int)).toNat 0 → ∀ v21 : Int, v21 = (L0).getD ((20 : Int)).toNat 0 → ∀ v22 : Int, v22 = (L0).getD ((21 : Int)).toNat 0 → ∀ v23 : Int, v23 = (L0).getD ((22 : Int)).toNat 0 → ∀ v24 : Int, v24 = (L0).getD ((23 : Int)).toNat 0 → ∀ L1 : List Int, L1 = [] → ∃ (I0 : List Int → List (List Int) → Prop) (μ0 : List Int → List (List Int) → Nat), I0 [(0 : Int), (0 : Int), (0 : Int)] [L1] ∧
(∀ v25 : Int, ∀ v26 : Int, ∀ v27 : Int, ∀ L2 : List Int, I0 [v25, v26, v27] [L2] →
 ((v25 < (8 : Int)) → ∀ v29 : Int, v29 = v25 * (3 : Int) → ∀ v30 : Int, v30 = v29 + (3 : Int) → ∀ v31 : Int, v31 = (L0).getD (v29).toNat 0 → ∀ v32 : Int, v32 = v29 + (1 : Int) → ∀ v33 : Int, v33 = (L0).getD (v32).toNat 0 → ∀ v34 : Int, v34 = v29 + (2 : Int) → ∀ v35 : Int, v35 = (L0).getD (v34).toNat 0 → ((v35 ≠ (0 : Int)) → ((v0 = v33) → ∀ L3 : List Int, L3 = [v25] → ∀ v38 : Int, v38 = v26 + (1 : Int) → (v38 ≤ (1000000 : Int)) ∧ (v26 ≤ v27) ∧ ∀ L4 : List Int, L4 = L2 ++ L3 → ∀ v39 : Int, v38 ≤ v39 → v39 ≤ (9223372036854775807 : Int) → ∀ v40 : Int, v40 = v25 + (1 : Int) → (I0 [v40, v38, v39] [L4] ∧ μ0 [v40, v38, v39] [L4] < μ0 [v25, v26, v27] [L2])) ∧
((v0 ≠ v33) → ∀ v38 : Int, v38 = v25 + (1 : Int) → (I0 [v38, v26, v27] [L2] ∧ μ0 [v38, v26, v27] [L2] < μ0 [v25, v26, v27] [L2]))) ∧
((v35 = (0 : Int)) → ∀ v37 : Int, v37 = v25 + (1 : Int) → (I0 [v37, v26, v27] [L2] ∧ μ0 [v37, v26, v27] [L2] < μ0 [v25, v26, v27] [L2]))) ∧
(((8 : Int) ≤ v25) → Q [v26, v27] [L2]))) := by kernel_rfl
set_option maxHeartbeats 4000000 in
theorem tBy_holds : (L2.tBy).Holds Tryz.prog L2.ro := FSpec.holdsV (cfg := withS (L2.cfg Tryz.prog) [L2.put_ L2.f_pte_Put]) [{ f := L2.f_table_Table_By, reg := 5, ints := [(14, 0, 8)], vecs := [(5, none)], nils := [(5, [.i .i64], L2.t_int)] }] 20 200 tt_ok mixed (t := tBy_t) tBy_tree (by
  show ∀ (v0 : Int) (L0 : List Int), _
  intro v0 L0 hp hr hl
  replace hr : (((-9223372036854775808) : Int) ≤ v0 ∧ v0 ≤ ((9223372036854775807) : Int)) ∧ True := hr
  replace hl : (∀ x ∈ L0, (((-9223372036854775808) : Int) ≤ x ∧ x ≤ ((9223372036854775807) : Int))) ∧ True := hl
  show tBy_t.dn ⟨_, []⟩ 1 [v0] 1 [L0]
  rw [tBy_vc]
  intro v1 e1 v2 e2 v3 e3 v4 e4 v5 e5 v6 e6 v7 e7 v8 e8 v9 e9 v10 e10 v11 e11 v12 e12 v13 e13 v14 e14 v15 e15 v16 e16 v17 e17 v18 e18 v19 e19 v20 e20 v21 e21 v22 e22 v23 e23 v24 e24
  clear e1 v1 e2 v2 e3 v3 e4 v4 e5 v5 e6 v6 e7 v7 e8 v8 e9 v9 e10 v10 e11 v11 e12 v12 e13 v13 e14 v14 e15 v15 e16 v16 e17 v17 e18 v18 e19 v19 e20 v20 e21 v21 e22 v22 e23 v23 e24 v24
  intro L1 e1
  have up : ∀ k : Nat, byUp L0 v0 (k + 1) = if tG L0 k 2 ≠ 0 ∧ tG L0 k 1 = v0 then byUp L0 v0 k ++ [(k : Int)] else byUp L0 v0 k := fun k => rfl
  have len : ∀ k : Nat, (byUp L0 v0 k).length ≤ k := by
    intro k
    induction k with
    | zero => exact Nat.le_refl 0
    | succ k ih => rw [up]; split <;> (try rw [List.length_append, List.length_singleton]) <;> omega
  refine ⟨fun xs ys => match xs, ys with | [i, n, c], [L] => 0 ≤ i ∧ i ≤ 8 ∧ L = byUp L0 v0 i.toNat ∧ n = (L.length : Int) ∧ n ≤ c | _, _ => False, fun xs _ => match xs with | i :: _ => (8 - i).toNat | _ => 0, ?_, ?_⟩ <;> dsimp only
  · subst e1; exact ⟨by omega, by omega, rfl, rfl, by omega⟩
  · intro v25 v26 v27 L2 hI
    obtain ⟨i0, i8, hL, hn, hc⟩ := hI
    obtain ⟨k, rfl⟩ : ∃ k : Nat, v25 = k := ⟨v25.toNat, by omega⟩
    rw [Int.toNat_natCast] at hL
    have hlen := len k
    refine ⟨fun c1 => ?_, fun c1 => ?_⟩
    · intro v29 e29 v30 e30 v31 e31 v32 e32 v33 e33 v34 e34 v35 e35
      have h35 : v35 = tG L0 k 2 := by rw [e35, e34, e29]; rfl
      have h33 : v33 = tG L0 k 1 := by rw [e33, e32, e29]; rfl
      have hup := up k
      refine ⟨fun c2 => ⟨fun c3 => ?_, fun c3 => ?_⟩, fun c2 => ?_⟩
      · intro L3 e3 v38 e38
        rw [if_pos ⟨by rw [← h35]; exact c2, by rw [← h33]; exact c3.symm⟩] at hup
        have hlt : (L2.length : Int) ≤ 8 := by rw [hL]; omega
        refine ⟨by omega, by omega, ?_⟩
        intro L4 e4 v39 h39 h39' v40 e40
        refine ⟨⟨by omega, by omega, ?_, ?_, by omega⟩, by omega⟩
        · rw [e40, show ((k : Int) + 1).toNat = k + 1 by omega, hup, e4, e3, hL]
        · rw [e4, e3, List.length_append, List.length_singleton, e38, hn]; push_cast; rfl
      · intro v38 e38
        rw [if_neg (fun h => c3 (by rw [h33]; exact h.2.symm))] at hup
        refine ⟨⟨by omega, by omega, ?_, hn, hc⟩, by omega⟩
        rw [e38, show ((k : Int) + 1).toNat = k + 1 by omega, hup, hL]
      · intro v37 e37
        rw [if_neg (fun h => h.1 (by rw [← h35]; exact c2))] at hup
        refine ⟨⟨by omega, by omega, ?_, hn, hc⟩, by omega⟩
        rw [e37, show ((k : Int) + 1).toNat = k + 1 by omega, hup, hL]
    · have hk : k = 8 := by omega
      subst hk
      refine ⟨?_, ?_, ?_⟩
      · show v26 = _
        rw [hn, hL]
        rfl
      · exact hc
      · show [L2] = [byUp L0 v0 8]
        rw [hL])
end Go.Proofs.YtpmgfdakljjlaaaGreatDoor
