/- Contracts: capabilities at places. -/
import Derived.Test.YtpmgfdakljjlaaaGreatDoorL2Kp
import Derived.Test.YtpmgfdakljjlaaaGreatDoorL2S
set_option linter.unusedVariables false
set_option linter.constructorNameAsVariable false
set_option linter.unusedSimpArgs false
open Go Go.Sx
namespace Go.Proofs.YtpmgfdakljjlaaaGreatDoor
set_option maxRecDepth 100000
theorem ca_ok : (withS (L2.cfg Tryz.prog) [L2.within_ L2.f_pte_Within]).Ok Tryz.prog := withS_ok cfg_ok ⟨pWithin_holds, trivial⟩
noncomputable def cAt_t : Tree := .letI (.cmp .leq (.c 0) (.v 2)) (.ite (.v 4) (.letI (.cmp .lss (.v 2) (.v 0)) (.ite (.v 5) (.letI (.cmp .leq (.c 0) (.v 3)) (.ite (.v 6) (.letI (.cmp .lss (.v 3) (.c 8)) (.letI (.not (.v 7)) (.ite (.v 8) (.done [.c (0), .c (0), .c (0), .c (0), .c (0)] []) (.need .lss (.v 2) (.v 0) (.letI (.mul (.v 2) (.c 32)) (.letI (.mul (.v 3) (.c 4)) (.letI (.add (.v 9) (.v 10)) (.letI (.add (.v 11) (.c 1)) (.need .lss (.v 12) (.v 1) (.letI (.get 0 (.v 12)) (.letI (.cmp .eql (.v 13) (.c 0)) (.ite (.v 14) (.done [.c (0), .c (0), .c (0), .c (0), .c (0)] []) (.need .lss (.v 2) (.v 0) (.need .lss (.v 11) (.v 1) (.letI (.get 0 (.v 11)) (.need .lss (.v 12) (.v 1) (.letI (.add (.v 11) (.c 2)) (.need .lss (.v 16) (.v 1) (.letI (.get 0 (.v 16)) (.letI (.add (.v 11) (.c 3)) (.need .lss (.v 18) (.v 1) (.letI (.get 0 (.v 18)) (.done [.v 15, .v 13, .v 17, .v 19, .c (1)] []))))))))))))))))))))))) (.done [.c (0), .c (0), .c (0), .c (0), .c (0)] []))) (.done [.c (0), .c (0), .c (0), .c (0), .c (0)] []))) (.done [.c (0), .c (0), .c (0), .c (0), .c (0)] []))
theorem cAt_tree : (L2.cAt).exe Tryz.prog (withS (L2.cfg Tryz.prog) [L2.within_ L2.f_pte_Within]) [] 20 200 = cAt_t := by kernel_rfl
theorem cAt_vc (Q : List Int → List (List Int) → Prop) (v0 v1 v2 v3 : Int) (L0 : List Int) : cAt_t.dn ⟨Q, []⟩ 4 [v3, v2, v1, v0] 1 [L0] = ((((0 : Int) ≤ v2) → ((v2 < v0) → (((0 : Int) ≤ v3) → ∀ v7 : Int, v7 = b2i (decide (v3 < (8 : Int))) → ∀ v8 : Int, v8 = b2i (v7 == 0) → (v8 ≠ 0 → Q [(0 : Int), (0 : Int), (0 : Int), (0 : Int), (0 : Int)] []) ∧
(v8 = 0 → (v2 < v0) ∧ ∀ v9 : Int, v9 = v2 * (32 : Int) → ∀ v10 : Int, v10 = v3 * (4 : Int) → ∀ v11 : Int, v11 = v9 + v10 → ∀ v12 : Int, v12 = v11 + (1 : Int) → (v12 < v1) ∧ ∀ v13 : Int, v13 = (L0).getD (v12).toNat 0 → ((v13 = (0 : Int)) → Q [(0 : Int), (0 : Int), (0 : Int), (0 : Int), (0 : Int)] []) ∧
((v13 ≠ (0 : Int)) → (v2 < v0) ∧ (v11 < v1) ∧ ∀ v15 : Int, v15 = (L0).getD (v11).toNat 0 → (v12 < v1) ∧ ∀ v16 : Int, v16 = v11 + (2 : Int) → (v16 < v1) ∧ ∀ v17 : Int, v17 = (L0).getD (v16).toNat 0 → ∀ v18 : Int, v18 = v11 + (3 : Int) → (v18 < v1) ∧ ∀ v19 : Int, v19 = (L0).getD (v18).toNat 0 → Q [v15, v13, v17, v19, (1 : Int)] []))) ∧
((v3 < (0 : Int)) → Q [(0 : Int), (0 : Int), (0 : Int), (0 : Int), (0 : Int)] [])) ∧
((v0 ≤ v2) → Q [(0 : Int), (0 : Int), (0 : Int), (0 : Int), (0 : Int)] [])) ∧
((v2 < (0 : Int)) → Q [(0 : Int), (0 : Int), (0 : Int), (0 : Int), (0 : Int)] [])) := by kernel_rfl
set_option maxHeartbeats 4000000 in
theorem cAt_holds : (L2.cAt).Holds Tryz.prog L2.ro := FSpec.holdsV (cfg := withS (L2.cfg Tryz.prog) [L2.within_ L2.f_pte_Within]) [] 20 200 ca_ok mixed (t := cAt_t) cAt_tree (by
  show ∀ (v0 v1 v2 v3 : Int) (L0 : List Int), _
  intro v0 v1 v2 v3 L0 hp hr hl
  replace hr : (((1) : Int) ≤ v0 ∧ v0 ≤ ((4) : Int)) ∧ (((32) : Int) ≤ v1 ∧ v1 ≤ ((128) : Int)) ∧ (((-9223372036854775808) : Int) ≤ v2 ∧ v2 ≤ ((9223372036854775807) : Int)) ∧ (((-9223372036854775808) : Int) ≤ v3 ∧ v3 ≤ ((9223372036854775807) : Int)) ∧ True := hr
  replace hl : (∀ x ∈ L0, (((-9223372036854775808) : Int) ≤ x ∧ x ≤ ((9223372036854775807) : Int))) ∧ True := hl
  show cAt_t.dn ⟨_, []⟩ 4 [v3, v2, v1, v0] 1 [L0]
  rw [cAt_vc]
  have hp : v1 = v0 * 32 := hp
  simp only [fnSpec_post, fnSpec_pre, true_and, List.cons.injEq, and_true, List.getD_cons_zero, List.getD_cons_succ, and_imp, forall_eq, b2i_zero, b2i_eq, ne_eq, Bool.not_eq_false, Bool.not_eq_true', Bool.not_eq_false', decide_eq_true_eq, decide_eq_false_iff_not, Int.not_lt, Int.not_le]
  repeat' first | refine And.intro ?_ ?_ | intro _
  all_goals clear hl
  all_goals first | omega | skip
  all_goals grind [capV, capOk, plOk, cG, cSet, rootE, rootL, derE, derL, lookE, rightsB, b2i])
noncomputable def cRoot_t : Tree := .letI (.cmp .leq (.c 0) (.v 2)) (.ite (.v 5) (.letI (.cmp .lss (.v 2) (.v 0)) (.ite (.v 6) (.letI (.cmp .leq (.c 0) (.v 3)) (.ite (.v 7) (.letI (.cmp .lss (.v 3) (.c 8)) (.letI (.not (.v 8)) (.ite (.v 9) (.done [.c (2)] [0]) (.letI (.cmp .lss (.v 4) (.c 0)) (.ite (.v 10) (.done [.c (2)] [0]) (.letI (.cmp .leq (.c 16) (.v 4)) (.ite (.v 11) (.done [.c (2)] [0]) (.need .lss (.v 2) (.v 0) (.letI (.mul (.v 2) (.c 32)) (.letI (.mul (.v 3) (.c 4)) (.letI (.add (.v 12) (.v 13)) (.letI (.add (.v 14) (.c 1)) (.need .lss (.v 15) (.v 1) (.letI (.get 0 (.v 15)) (.letI (.cmp .neq (.v 16) (.c 0)) (.ite (.v 17) (.done [.c (4)] [0]) (.need .lss (.v 2) (.v 0) (.need .lss (.v 14) (.v 1) (.letL (.set 0 (.v 14) (.v 4)) (.need .lss (.v 15) (.v 1) (.letL (.set 1 (.v 15) (.c 3)) (.letI (.add (.v 14) (.c 2)) (.need .lss (.v 18) (.v 1) (.letL (.set 2 (.v 18) (.c (-1))) (.letI (.add (.v 14) (.c 3)) (.need .lss (.v 19) (.v 1) (.letL (.set 3 (.v 19) (.c 0)) (.done [.c (0)] [4])))))))))))))))))))))))))))) (.done [.c (2)] [0]))) (.done [.c (2)] [0]))) (.done [.c (2)] [0]))
theorem cRoot_tree : (L2.cRoot).exe Tryz.prog (withS (L2.cfg Tryz.prog) [L2.within_ L2.f_pte_Within]) [] 20 200 = cRoot_t := by kernel_rfl
theorem cRoot_vc (Q : List Int → List (List Int) → Prop) (v0 v1 v2 v3 v4 : Int) (L0 : List Int) : cRoot_t.dn ⟨Q, []⟩ 5 [v4, v3, v2, v1, v0] 1 [L0] = ((((0 : Int) ≤ v2) → ((v2 < v0) → (((0 : Int) ≤ v3) → ∀ v8 : Int, v8 = b2i (decide (v3 < (8 : Int))) → ∀ v9 : Int, v9 = b2i (v8 == 0) → (v9 ≠ 0 → Q [(2 : Int)] [L0]) ∧
(v9 = 0 → ((v4 < (0 : Int)) → Q [(2 : Int)] [L0]) ∧
(((0 : Int) ≤ v4) → (((16 : Int) ≤ v4) → Q [(2 : Int)] [L0]) ∧
((v4 < (16 : Int)) → (v2 < v0) ∧ ∀ v12 : Int, v12 = v2 * (32 : Int) → ∀ v13 : Int, v13 = v3 * (4 : Int) → ∀ v14 : Int, v14 = v12 + v13 → ∀ v15 : Int, v15 = v14 + (1 : Int) → (v15 < v1) ∧ ∀ v16 : Int, v16 = (L0).getD (v15).toNat 0 → ((v16 ≠ (0 : Int)) → Q [(4 : Int)] [L0]) ∧
((v16 = (0 : Int)) → (v2 < v0) ∧ (v14 < v1) ∧ ∀ L1 : List Int, L1 = (L0).set (v14).toNat v4 → (v15 < v1) ∧ ∀ L2 : List Int, L2 = (L1).set (v15).toNat (3 : Int) → ∀ v18 : Int, v18 = v14 + (2 : Int) → (v18 < v1) ∧ ∀ L3 : List Int, L3 = (L2).set (v18).toNat ((-1) : Int) → ∀ v19 : Int, v19 = v14 + (3 : Int) → (v19 < v1) ∧ ∀ L4 : List Int, L4 = (L3).set (v19).toNat (0 : Int) → Q [(0 : Int)] [L4]))))) ∧
((v3 < (0 : Int)) → Q [(2 : Int)] [L0])) ∧
((v0 ≤ v2) → Q [(2 : Int)] [L0])) ∧
((v2 < (0 : Int)) → Q [(2 : Int)] [L0])) := by kernel_rfl
set_option maxHeartbeats 4000000 in
theorem cRoot_holds : (L2.cRoot).Holds Tryz.prog L2.ro := FSpec.holdsV (cfg := withS (L2.cfg Tryz.prog) [L2.within_ L2.f_pte_Within]) [] 20 200 ca_ok mixed (t := cRoot_t) cRoot_tree (by
  show ∀ (v0 v1 v2 v3 v4 : Int) (L0 : List Int), _
  intro v0 v1 v2 v3 v4 L0 hp hr hl
  replace hr : (((1) : Int) ≤ v0 ∧ v0 ≤ ((4) : Int)) ∧ (((32) : Int) ≤ v1 ∧ v1 ≤ ((128) : Int)) ∧ (((-9223372036854775808) : Int) ≤ v2 ∧ v2 ≤ ((9223372036854775807) : Int)) ∧ (((-9223372036854775808) : Int) ≤ v3 ∧ v3 ≤ ((9223372036854775807) : Int)) ∧ (((-9223372036854775808) : Int) ≤ v4 ∧ v4 ≤ ((9223372036854775807) : Int)) ∧ True := hr
  replace hl : (∀ x ∈ L0, (((-9223372036854775808) : Int) ≤ x ∧ x ≤ ((9223372036854775807) : Int))) ∧ True := hl
  show cRoot_t.dn ⟨_, []⟩ 5 [v4, v3, v2, v1, v0] 1 [L0]
  rw [cRoot_vc]
  have hp : v1 = v0 * 32 := hp
  simp only [fnSpec_post, fnSpec_pre, true_and, List.cons.injEq, and_true, List.getD_cons_zero, List.getD_cons_succ, and_imp, forall_eq, b2i_zero, b2i_eq, ne_eq, Bool.not_eq_false, Bool.not_eq_true', Bool.not_eq_false', decide_eq_true_eq, decide_eq_false_iff_not, Int.not_lt, Int.not_le]
  repeat' first | refine And.intro ?_ ?_ | intro _
  all_goals clear hl
  all_goals first | omega | skip
  all_goals grind [capV, capOk, plOk, cG, cSet, rootE, rootL, derE, derL, lookE, rightsB, b2i])
noncomputable def cDer_t : Tree := .letI (.cmp .leq (.c 0) (.v 2)) (.ite (.v 7) (.letI (.cmp .lss (.v 2) (.v 0)) (.ite (.v 8) (.letI (.cmp .leq (.c 0) (.v 3)) (.ite (.v 9) (.letI (.cmp .lss (.v 3) (.c 8)) (.letI (.not (.v 10)) (.ite (.v 11) (.done [.c (2)] [0]) (.letI (.cmp .leq (.c 0) (.v 4)) (.ite (.v 12) (.letI (.cmp .lss (.v 4) (.v 0)) (.ite (.v 13) (.letI (.cmp .leq (.c 0) (.v 5)) (.ite (.v 14) (.letI (.cmp .lss (.v 5) (.c 8)) (.letI (.not (.v 15)) (.ite (.v 16) (.done [.c (2)] [0]) (.letI (.cmp .leq (.c 1) (.v 6)) (.ite (.v 17) (.letI (.cmp .leq (.v 6) (.c 3)) (.letI (.not (.v 18)) (.ite (.v 19) (.done [.c (2)] [0]) (.need .lss (.v 2) (.v 0) (.letI (.mul (.v 2) (.c 32)) (.letI (.mul (.v 3) (.c 4)) (.letI (.add (.v 20) (.v 21)) (.need .lss (.v 22) (.v 1) (.letI (.get 0 (.v 22)) (.letI (.add (.v 22) (.c 1)) (.need .lss (.v 24) (.v 1) (.letI (.get 0 (.v 24)) (.letI (.add (.v 22) (.c 2)) (.need .lss (.v 26) (.v 1) (.letI (.get 0 (.v 26)) (.letI (.add (.v 22) (.c 3)) (.need .lss (.v 28) (.v 1) (.letI (.get 0 (.v 28)) (.letI (.cmp .eql (.v 25) (.c 0)) (.ite (.v 30) (.done [.c (3)] [0]) (.need .lss (.v 4) (.v 0) (.letI (.mul (.v 4) (.c 32)) (.letI (.mul (.v 5) (.c 4)) (.letI (.add (.v 31) (.v 32)) (.letI (.add (.v 33) (.c 1)) (.need .lss (.v 34) (.v 1) (.letI (.get 0 (.v 34)) (.letI (.cmp .neq (.v 35) (.c 0)) (.ite (.v 36) (.done [.c (4)] [0]) (.call 55 (Go.Sx.L2.within_ Go.Sx.L2.f_pte_Within).rel [.v 6, .v 25] [] 1 0 (.letI (.not (.v 37)) (.ite (.v 38) (.done [.c (5)] [0]) (.need .lss (.v 4) (.v 0) (.need .lss (.v 33) (.v 1) (.letL (.set 0 (.v 33) (.v 23)) (.need .lss (.v 34) (.v 1) (.letL (.set 1 (.v 34) (.v 6)) (.letI (.add (.v 33) (.c 2)) (.need .lss (.v 39) (.v 1) (.letL (.set 2 (.v 39) (.v 2)) (.letI (.add (.v 33) (.c 3)) (.need .lss (.v 40) (.v 1) (.letL (.set 3 (.v 40) (.v 3)) (.done [.c (0)] [4])))))))))))))))))))))))))))))))))))))))))))) (.done [.c (2)] [0])))))) (.done [.c (2)] [0]))) (.done [.c (2)] [0]))) (.done [.c (2)] [0])))))) (.done [.c (2)] [0]))) (.done [.c (2)] [0]))) (.done [.c (2)] [0]))
theorem cDer_tree : (L2.cDer).exe Tryz.prog (withS (L2.cfg Tryz.prog) [L2.within_ L2.f_pte_Within]) [] 20 200 = cDer_t := by kernel_rfl
theorem cDer_vc (Q : List Int → List (List Int) → Prop) (v0 v1 v2 v3 v4 v5 v6 : Int) (L0 : List Int) : cDer_t.dn ⟨Q, []⟩ 7 [v6, v5, v4, v3, v2, v1, v0] 1 [L0] = ((((0 : Int) ≤ v2) → ((v2 < v0) → (((0 : Int) ≤ v3) → ∀ v10 : Int, v10 = b2i (decide (v3 < (8 : Int))) → ∀ v11 : Int, v11 = b2i (v10 == 0) → (v11 ≠ 0 → Q [(2 : Int)] [L0]) ∧
(v11 = 0 → (((0 : Int) ≤ v4) → ((v4 < v0) → (((0 : Int) ≤ v5) → ∀ v15 : Int, v15 = b2i (decide (v5 < (8 : Int))) → ∀ v16 : Int, v16 = b2i (v15 == 0) → (v16 ≠ 0 → Q [(2 : Int)] [L0]) ∧
(v16 = 0 → (((1 : Int) ≤ v6) → ∀ v18 : Int, v18 = b2i (decide (v6 ≤ (3 : Int))) → ∀ v19 : Int, v19 = b2i (v18 == 0) → (v19 ≠ 0 → Q [(2 : Int)] [L0]) ∧
(v19 = 0 → (v2 < v0) ∧ ∀ v20 : Int, v20 = v2 * (32 : Int) → ∀ v21 : Int, v21 = v3 * (4 : Int) → ∀ v22 : Int, v22 = v20 + v21 → (v22 < v1) ∧ ∀ v23 : Int, v23 = (L0).getD (v22).toNat 0 → ∀ v24 : Int, v24 = v22 + (1 : Int) → (v24 < v1) ∧ ∀ v25 : Int, v25 = (L0).getD (v24).toNat 0 → ∀ v26 : Int, v26 = v22 + (2 : Int) → (v26 < v1) ∧ ∀ v27 : Int, v27 = (L0).getD (v26).toNat 0 → ∀ v28 : Int, v28 = v22 + (3 : Int) → (v28 < v1) ∧ ∀ v29 : Int, v29 = (L0).getD (v28).toNat 0 → ((v25 = (0 : Int)) → Q [(3 : Int)] [L0]) ∧
((v25 ≠ (0 : Int)) → (v4 < v0) ∧ ∀ v31 : Int, v31 = v4 * (32 : Int) → ∀ v32 : Int, v32 = v5 * (4 : Int) → ∀ v33 : Int, v33 = v31 + v32 → ∀ v34 : Int, v34 = v33 + (1 : Int) → (v34 < v1) ∧ ∀ v35 : Int, v35 = (L0).getD (v34).toNat 0 → ((v35 ≠ (0 : Int)) → Q [(4 : Int)] [L0]) ∧
((v35 = (0 : Int)) → (Go.Sx.L2.within_ Go.Sx.L2.f_pte_Within).rel.pre [v6, v25] [] ∧
(∀ v37 : Int, (Go.Sx.L2.within_ Go.Sx.L2.f_pte_Within).rel.post [v6, v25] [] [v37] [] → ∀ v38 : Int, v38 = b2i (v37 == 0) → (v38 ≠ 0 → Q [(5 : Int)] [L0]) ∧
(v38 = 0 → (v4 < v0) ∧ (v33 < v1) ∧ ∀ L1 : List Int, L1 = (L0).set (v33).toNat v23 → (v34 < v1) ∧ ∀ L2 : List Int, L2 = (L1).set (v34).toNat v6 → ∀ v39 : Int, v39 = v33 + (2 : Int) → (v39 < v1) ∧ ∀ L3 : List Int, L3 = (L2).set (v39).toNat v2 → ∀ v40 : Int, v40 = v33 + (3 : Int) → (v40 < v1) ∧ ∀ L4 : List Int, L4 = (L3).set (v40).toNat v3 → Q [(0 : Int)] [L4])))))) ∧
((v6 < (1 : Int)) → Q [(2 : Int)] [L0]))) ∧
((v5 < (0 : Int)) → Q [(2 : Int)] [L0])) ∧
((v0 ≤ v4) → Q [(2 : Int)] [L0])) ∧
((v4 < (0 : Int)) → Q [(2 : Int)] [L0]))) ∧
((v3 < (0 : Int)) → Q [(2 : Int)] [L0])) ∧
((v0 ≤ v2) → Q [(2 : Int)] [L0])) ∧
((v2 < (0 : Int)) → Q [(2 : Int)] [L0])) := by kernel_rfl
set_option maxHeartbeats 4000000 in
theorem cDer_holds : (L2.cDer).Holds Tryz.prog L2.ro := FSpec.holdsV (cfg := withS (L2.cfg Tryz.prog) [L2.within_ L2.f_pte_Within]) [] 20 200 ca_ok mixed (t := cDer_t) cDer_tree (by
  show ∀ (v0 v1 v2 v3 v4 v5 v6 : Int) (L0 : List Int), _
  intro v0 v1 v2 v3 v4 v5 v6 L0 hp hr hl
  replace hr : (((1) : Int) ≤ v0 ∧ v0 ≤ ((4) : Int)) ∧ (((32) : Int) ≤ v1 ∧ v1 ≤ ((128) : Int)) ∧ (((-9223372036854775808) : Int) ≤ v2 ∧ v2 ≤ ((9223372036854775807) : Int)) ∧ (((-9223372036854775808) : Int) ≤ v3 ∧ v3 ≤ ((9223372036854775807) : Int)) ∧ (((-9223372036854775808) : Int) ≤ v4 ∧ v4 ≤ ((9223372036854775807) : Int)) ∧ (((-9223372036854775808) : Int) ≤ v5 ∧ v5 ≤ ((9223372036854775807) : Int)) ∧ (((-9223372036854775808) : Int) ≤ v6 ∧ v6 ≤ ((9223372036854775807) : Int)) ∧ True := hr
  replace hl : (∀ x ∈ L0, (((-9223372036854775808) : Int) ≤ x ∧ x ≤ ((9223372036854775807) : Int))) ∧ True := hl
  show cDer_t.dn ⟨_, []⟩ 7 [v6, v5, v4, v3, v2, v1, v0] 1 [L0]
  rw [cDer_vc]
  have hp : v1 = v0 * 32 := hp
  simp only [fnSpec_post, fnSpec_pre, true_and, List.cons.injEq, and_true, List.getD_cons_zero, List.getD_cons_succ, and_imp, forall_eq, b2i_zero, b2i_eq, ne_eq, Bool.not_eq_false, Bool.not_eq_true', Bool.not_eq_false', decide_eq_true_eq, decide_eq_false_iff_not, Int.not_lt, Int.not_le]
  repeat' first | refine And.intro ?_ ?_ | intro _
  all_goals clear hl
  all_goals first | omega | skip
  all_goals grind [capV, capOk, plOk, cG, cSet, rootE, rootL, derE, derL, lookE, rightsB, b2i])
noncomputable def cLook_t : Tree := .letI (.cmp .leq (.c 0) (.v 2)) (.ite (.v 4) (.letI (.cmp .lss (.v 2) (.v 0)) (.ite (.v 5) (.letI (.cmp .leq (.c 0) (.v 3)) (.ite (.v 6) (.letI (.cmp .lss (.v 3) (.c 8)) (.letI (.not (.v 7)) (.ite (.v 8) (.done [.c (2)] []) (.need .lss (.v 2) (.v 0) (.letI (.mul (.v 2) (.c 32)) (.letI (.mul (.v 3) (.c 4)) (.letI (.add (.v 9) (.v 10)) (.letI (.add (.v 11) (.c 1)) (.need .lss (.v 12) (.v 1) (.letI (.get 0 (.v 12)) (.letI (.cmp .eql (.v 13) (.c 0)) (.ite (.v 14) (.done [.c (3)] []) (.done [.c (0)] []))))))))))))) (.done [.c (2)] []))) (.done [.c (2)] []))) (.done [.c (2)] []))
theorem cLook_tree : (L2.cLook).exe Tryz.prog (withS (L2.cfg Tryz.prog) [L2.within_ L2.f_pte_Within]) [] 20 200 = cLook_t := by kernel_rfl
theorem cLook_vc (Q : List Int → List (List Int) → Prop) (v0 v1 v2 v3 : Int) (L0 : List Int) : cLook_t.dn ⟨Q, []⟩ 4 [v3, v2, v1, v0] 1 [L0] = ((((0 : Int) ≤ v2) → ((v2 < v0) → (((0 : Int) ≤ v3) → ∀ v7 : Int, v7 = b2i (decide (v3 < (8 : Int))) → ∀ v8 : Int, v8 = b2i (v7 == 0) → (v8 ≠ 0 → Q [(2 : Int)] []) ∧
(v8 = 0 → (v2 < v0) ∧ ∀ v9 : Int, v9 = v2 * (32 : Int) → ∀ v10 : Int, v10 = v3 * (4 : Int) → ∀ v11 : Int, v11 = v9 + v10 → ∀ v12 : Int, v12 = v11 + (1 : Int) → (v12 < v1) ∧ ∀ v13 : Int, v13 = (L0).getD (v12).toNat 0 → ((v13 = (0 : Int)) → Q [(3 : Int)] []) ∧
((v13 ≠ (0 : Int)) → Q [(0 : Int)] []))) ∧
((v3 < (0 : Int)) → Q [(2 : Int)] [])) ∧
((v0 ≤ v2) → Q [(2 : Int)] [])) ∧
((v2 < (0 : Int)) → Q [(2 : Int)] [])) := by kernel_rfl
set_option maxHeartbeats 4000000 in
theorem cLook_holds : (L2.cLook).Holds Tryz.prog L2.ro := FSpec.holdsV (cfg := withS (L2.cfg Tryz.prog) [L2.within_ L2.f_pte_Within]) [] 20 200 ca_ok mixed (t := cLook_t) cLook_tree (by
  show ∀ (v0 v1 v2 v3 : Int) (L0 : List Int), _
  intro v0 v1 v2 v3 L0 hp hr hl
  replace hr : (((1) : Int) ≤ v0 ∧ v0 ≤ ((4) : Int)) ∧ (((32) : Int) ≤ v1 ∧ v1 ≤ ((128) : Int)) ∧ (((-9223372036854775808) : Int) ≤ v2 ∧ v2 ≤ ((9223372036854775807) : Int)) ∧ (((-9223372036854775808) : Int) ≤ v3 ∧ v3 ≤ ((9223372036854775807) : Int)) ∧ True := hr
  replace hl : (∀ x ∈ L0, (((-9223372036854775808) : Int) ≤ x ∧ x ≤ ((9223372036854775807) : Int))) ∧ True := hl
  show cLook_t.dn ⟨_, []⟩ 4 [v3, v2, v1, v0] 1 [L0]
  rw [cLook_vc]
  have hp : v1 = v0 * 32 := hp
  simp only [fnSpec_post, fnSpec_pre, true_and, List.cons.injEq, and_true, List.getD_cons_zero, List.getD_cons_succ, and_imp, forall_eq, b2i_zero, b2i_eq, ne_eq, Bool.not_eq_false, Bool.not_eq_true', Bool.not_eq_false', decide_eq_true_eq, decide_eq_false_iff_not, Int.not_lt, Int.not_le]
  repeat' first | refine And.intro ?_ ?_ | intro _
  all_goals clear hl
  all_goals first | omega | skip
  all_goals grind [capV, capOk, plOk, cG, cSet, rootE, rootL, derE, derL, lookE, rightsB, b2i])
noncomputable def cUnder_t : Tree := .loop [.v 2, .v 3, .v 4, .v 5] [] (.letI (.cmp .neq (.v 9) (.c 0)) (.ite (.v 12) (.letI (.cmp .leq (.c 0) (.v 10)) (.ite (.v 13) (.letI (.cmp .eql (.v 6) (.v 10)) (.ite (.v 14) (.letI (.cmp .eql (.v 7) (.v 11)) (.ite (.v 15) (.exit (.done [.c (1)] [])) (.need .lss (.v 10) (.v 0) (.letI (.mul (.v 10) (.c 32)) (.need .geq (.v 11) (.c 0) (.need .lss (.v 11) (.c 8) (.letI (.mul (.v 11) (.c 4)) (.letI (.add (.v 16) (.v 17)) (.need .lss (.v 18) (.v 1) (.letI (.get 0 (.v 18)) (.letI (.add (.v 18) (.c 1)) (.need .lss (.v 20) (.v 1) (.letI (.get 0 (.v 20)) (.letI (.add (.v 18) (.c 2)) (.need .lss (.v 22) (.v 1) (.letI (.get 0 (.v 22)) (.letI (.add (.v 18) (.c 3)) (.need .lss (.v 24) (.v 1) (.letI (.get 0 (.v 24)) (.again [.v 19, .v 21, .v 23, .v 25] [])))))))))))))))))))) (.need .lss (.v 10) (.v 0) (.letI (.mul (.v 10) (.c 32)) (.need .geq (.v 11) (.c 0) (.need .lss (.v 11) (.c 8) (.letI (.mul (.v 11) (.c 4)) (.letI (.add (.v 15) (.v 16)) (.need .lss (.v 17) (.v 1) (.letI (.get 0 (.v 17)) (.letI (.add (.v 17) (.c 1)) (.need .lss (.v 19) (.v 1) (.letI (.get 0 (.v 19)) (.letI (.add (.v 17) (.c 2)) (.need .lss (.v 21) (.v 1) (.letI (.get 0 (.v 21)) (.letI (.add (.v 17) (.c 3)) (.need .lss (.v 23) (.v 1) (.letI (.get 0 (.v 23)) (.again [.v 18, .v 20, .v 22, .v 24] [])))))))))))))))))))) (.exit (.done [.c (0)] [])))) (.exit (.done [.c (0)] []))))
theorem cUnder_tree : (L2.cUnder).exe Tryz.prog (withS (L2.cfg Tryz.prog) [L2.within_ L2.f_pte_Within]) [{ f := L2.f_caps_Tree_under, reg := 1, cells := [(4, [], 0, -9223372036854775808, 9223372036854775807), (4, [], 1, -9223372036854775808, 9223372036854775807), (4, [], 2, -9223372036854775808, 9223372036854775807), (4, [], 3, -9223372036854775808, 9223372036854775807)] }] 20 200 = cUnder_t := by kernel_rfl
theorem cUnder_vc (Q : List Int → List (List Int) → Prop) (v0 v1 v2 v3 v4 v5 v6 v7 : Int) (L0 : List Int) : cUnder_t.dn ⟨Q, []⟩ 8 [v7, v6, v5, v4, v3, v2, v1, v0] 1 [L0] = (∃ (I0 : List Int → List (List Int) → Prop) (μ0 : List Int → List (List Int) → Nat), I0 [v2, v3, v4, v5] [] ∧
(∀ v8 : Int, ∀ v9 : Int, ∀ v10 : Int, ∀ v11 : Int, I0 [v8, v9, v10, v11] [] →
 ((v9 ≠ (0 : Int)) → (((0 : Int) ≤ v10) → ((v6 = v10) → ((v7 = v11) → Q [(1 : Int)] []) ∧
((v7 ≠ v11) → (v10 < v0) ∧ ∀ v16 : Int, v16 = v10 * (32 : Int) → ((0 : Int) ≤ v11) ∧ (v11 < (8 : Int)) ∧ ∀ v17 : Int, v17 = v11 * (4 : Int) → ∀ v18 : Int, v18 = v16 + v17 → (v18 < v1) ∧ ∀ v19 : Int, v19 = (L0).getD (v18).toNat 0 → ∀ v20 : Int, v20 = v18 + (1 : Int) → (v20 < v1) ∧ ∀ v21 : Int, v21 = (L0).getD (v20).toNat 0 → ∀ v22 : Int, v22 = v18 + (2 : Int) → (v22 < v1) ∧ ∀ v23 : Int, v23 = (L0).getD (v22).toNat 0 → ∀ v24 : Int, v24 = v18 + (3 : Int) → (v24 < v1) ∧ ∀ v25 : Int, v25 = (L0).getD (v24).toNat 0 → (I0 [v19, v21, v23, v25] [] ∧ μ0 [v19, v21, v23, v25] [] < μ0 [v8, v9, v10, v11] []))) ∧
((v6 ≠ v10) → (v10 < v0) ∧ ∀ v15 : Int, v15 = v10 * (32 : Int) → ((0 : Int) ≤ v11) ∧ (v11 < (8 : Int)) ∧ ∀ v16 : Int, v16 = v11 * (4 : Int) → ∀ v17 : Int, v17 = v15 + v16 → (v17 < v1) ∧ ∀ v18 : Int, v18 = (L0).getD (v17).toNat 0 → ∀ v19 : Int, v19 = v17 + (1 : Int) → (v19 < v1) ∧ ∀ v20 : Int, v20 = (L0).getD (v19).toNat 0 → ∀ v21 : Int, v21 = v17 + (2 : Int) → (v21 < v1) ∧ ∀ v22 : Int, v22 = (L0).getD (v21).toNat 0 → ∀ v23 : Int, v23 = v17 + (3 : Int) → (v23 < v1) ∧ ∀ v24 : Int, v24 = (L0).getD (v23).toNat 0 → (I0 [v18, v20, v22, v24] [] ∧ μ0 [v18, v20, v22, v24] [] < μ0 [v8, v9, v10, v11] []))) ∧
((v10 < (0 : Int)) → Q [(0 : Int)] [])) ∧
((v9 = (0 : Int)) → Q [(0 : Int)] []))) := by kernel_rfl
set_option maxHeartbeats 4000000 in
theorem cUnder_holds : (L2.cUnder).Holds Tryz.prog L2.ro := FSpec.holdsV (cfg := withS (L2.cfg Tryz.prog) [L2.within_ L2.f_pte_Within]) [{ f := L2.f_caps_Tree_under, reg := 1, cells := [(4, [], 0, -9223372036854775808, 9223372036854775807), (4, [], 1, -9223372036854775808, 9223372036854775807), (4, [], 2, -9223372036854775808, 9223372036854775807), (4, [], 3, -9223372036854775808, 9223372036854775807)] }] 20 200 ca_ok mixed (t := cUnder_t) cUnder_tree (by
  show ∀ (v0 v1 v2 v3 v4 v5 v6 v7 : Int) (L0 : List Int), _
  intro v0 v1 v2 v3 v4 v5 v6 v7 L0 hp hr hl
  replace hr : (((1) : Int) ≤ v0 ∧ v0 ≤ ((4) : Int)) ∧ (((32) : Int) ≤ v1 ∧ v1 ≤ ((128) : Int)) ∧ (((-9223372036854775808) : Int) ≤ v2 ∧ v2 ≤ ((9223372036854775807) : Int)) ∧ (((-9223372036854775808) : Int) ≤ v3 ∧ v3 ≤ ((9223372036854775807) : Int)) ∧ (((-9223372036854775808) : Int) ≤ v4 ∧ v4 ≤ ((9223372036854775807) : Int)) ∧ (((-9223372036854775808) : Int) ≤ v5 ∧ v5 ≤ ((9223372036854775807) : Int)) ∧ (((-9223372036854775808) : Int) ≤ v6 ∧ v6 ≤ ((9223372036854775807) : Int)) ∧ (((-9223372036854775808) : Int) ≤ v7 ∧ v7 ≤ ((9223372036854775807) : Int)) ∧ True := hr
  replace hl : (∀ x ∈ L0, (((-9223372036854775808) : Int) ≤ x ∧ x ≤ ((9223372036854775807) : Int))) ∧ True := hl
  show cUnder_t.dn ⟨_, []⟩ 8 [v7, v6, v5, v4, v3, v2, v1, v0] 1 [L0]
  rw [cUnder_vc]
  have hp : (v1 = v0 * 32 ∧ CV v0 L0) ∧ (v3 ≠ 0 → 0 ≤ v4 → v4 < v0 ∧ 0 ≤ v5 ∧ v5 < 8) ∧ endC L0 33 v3 v4 v5 = true := hp
  obtain ⟨⟨h1, hcv⟩, hpar, hend⟩ := hp
  refine ⟨fun xs ys => match xs with | [f, r, pe, ps] => (r ≠ 0 → 0 ≤ pe → pe < v0 ∧ 0 ≤ ps ∧ ps < 8) ∧ ∃ m : Nat, m ≤ 33 ∧ endC L0 m r pe ps = true ∧ undC L0 v6 v7 m r pe ps = undC L0 v6 v7 33 v3 v4 v5 | _ => False, fun xs _ => match xs with | [f, r, pe, ps] => depC L0 40 r pe ps | _ => 0, ?_, ?_⟩ <;> dsimp only
  · exact ⟨hpar, 33, Nat.le_refl _, hend, rfl⟩
  · intro f r pe ps hI
    obtain ⟨hq, m, hm, he, hu⟩ := hI
    obtain ⟨n, rfl⟩ : ∃ n, m = n + 1 := by
      cases m with
      | zero => cases he
      | succ n => exact ⟨n, rfl⟩
    have post : ∀ b : Bool, undC L0 v6 v7 33 v3 v4 v5 = b → [b2i b] = [b2i (undC L0 v6 v7 33 v3 v4 v5)] ∧ ([] : List (List Int)) = [] := fun b h => ⟨by rw [h], rfl⟩
    have next : r ≠ 0 → 0 ≤ pe → ¬ (pe = v6 ∧ ps = v7) → ∀ f' r' pe' ps' : Int, r' = cG L0 pe ps 1 → pe' = cG L0 pe ps 2 → ps' = cG L0 pe ps 3 →
        ((r' ≠ 0 → 0 ≤ pe' → pe' < v0 ∧ 0 ≤ ps' ∧ ps' < 8) ∧ ∃ m : Nat, m ≤ 33 ∧ endC L0 m r' pe' ps' = true ∧ undC L0 v6 v7 m r' pe' ps' = undC L0 v6 v7 33 v3 v4 v5) ∧ depC L0 40 r' pe' ps' < depC L0 40 r pe ps := by
      intro c1 c2 c3 f' r' pe' ps' e1 e2 e3
      have q := hq c1 c2
      rw [endC_succ, if_neg (by omega)] at he
      rw [undC_succ, if_neg (by omega), if_neg c3] at hu
      rw [depC_succ L0 39 r pe ps, if_neg (by omega), e1, e2, e3]
      refine ⟨⟨hcv.par pe ps c2 q.1 q.2.1 q.2.2, n, by omega, he, hu⟩, ?_⟩
      rw [depC_eq (a := 40) (b := 39) he (by omega) (by omega)]
      exact Nat.lt_succ_self _
    refine ⟨fun c1 => ⟨fun c2 => ⟨fun c3 => ⟨fun c4 => ?_, fun c4 => ?_⟩, fun c3 => ?_⟩, fun c2 => ?_⟩, fun c1 => ?_⟩
    · rw [undC_succ, if_neg (by omega), if_pos ⟨c3.symm, c4.symm⟩] at hu
      exact post true hu.symm
    · have q := hq c1 c2
      refine ⟨q.1, fun a ea => ⟨q.2.1, q.2.2, fun b eb x ex => ⟨by omega, fun y0 ey0 x1 ex1 => ⟨by omega, fun y1 ey1 x2 ex2 => ⟨by omega, fun y2 ey2 x3 ex3 => ⟨by omega, fun y3 ey3 => ?_⟩⟩⟩⟩⟩⟩
      refine next c1 c2 (fun h => c4 h.2.symm) y0 y1 y2 y3 ?_ ?_ ?_
      · rw [ey1, ex1, ex, ea, eb]; rfl
      · rw [ey2, ex2, ex, ea, eb]; rfl
      · rw [ey3, ex3, ex, ea, eb]; rfl
    · have q := hq c1 c2
      refine ⟨q.1, fun a ea => ⟨q.2.1, q.2.2, fun b eb x ex => ⟨by omega, fun y0 ey0 x1 ex1 => ⟨by omega, fun y1 ey1 x2 ex2 => ⟨by omega, fun y2 ey2 x3 ex3 => ⟨by omega, fun y3 ey3 => ?_⟩⟩⟩⟩⟩⟩
      refine next c1 c2 (fun h => c3 h.1.symm) y0 y1 y2 y3 ?_ ?_ ?_
      · rw [ey1, ex1, ex, ea, eb]; rfl
      · rw [ey2, ex2, ex, ea, eb]; rfl
      · rw [ey3, ex3, ex, ea, eb]; rfl
    · rw [undC_succ, if_pos (.inr c2)] at hu
      exact post false hu.symm
    · rw [undC_succ, if_pos (.inl c1)] at hu
      exact post false hu.symm)
end Go.Proofs.YtpmgfdakljjlaaaGreatDoor
