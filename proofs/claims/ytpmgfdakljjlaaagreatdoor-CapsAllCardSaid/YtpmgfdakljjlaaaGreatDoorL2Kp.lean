/- Contracts: rights, entries as words. -/
import Derived.Test.YtpmgfdakljjlaaaGreatDoorL2Facts
import Derived.Test.YtpmgfdakljjlaaaGreatDoorSxM7
import Derived.Test.YtpmgfdakljjlaaaGreatDoorL2S
set_option linter.unusedVariables false
set_option linter.constructorNameAsVariable false
set_option linter.unusedSimpArgs false
open Go Go.Sx
namespace Go.Proofs.YtpmgfdakljjlaaaGreatDoor
set_option maxRecDepth 100000
noncomputable def pWithin_t : Tree := .letI (.cmp .leq (.c 1) (.v 0)) (.ite (.v 2) (.letI (.cmp .leq (.v 0) (.c 3)) (.ite (.v 3) (.letI (.cmp .leq (.c 1) (.v 1)) (.ite (.v 4) (.letI (.cmp .leq (.v 1) (.c 3)) (.ite (.v 5) (.letI (.bit .andNot .i64 (.v 0) (.v 1)) (.letI (.cmp .eql (.v 6) (.c 0)) (.done [.v 7] []))) (.done [.c (0)] []))) (.done [.c (0)] []))) (.done [.c (0)] []))) (.done [.c (0)] []))
theorem pWithin_tree : (L2.within_ L2.f_pte_Within).exe Tryz.prog (L2.cfg Tryz.prog) [] 20 200 = pWithin_t := by kernel_rfl
theorem pWithin_vc (Q : List Int → List (List Int) → Prop) (v0 v1 : Int) : pWithin_t.dn ⟨Q, []⟩ 2 [v1, v0] 0 [] = ((((1 : Int) ≤ v0) → ((v0 ≤ (3 : Int)) → (((1 : Int) ≤ v1) → ((v1 ≤ (3 : Int)) → ∀ v6 : Int, v6 = bitDen .andNot .i64 v0 v1 → ∀ v7 : Int, v7 = b2i (v6 == (0 : Int)) → Q [v7] []) ∧
(((3 : Int) < v1) → Q [(0 : Int)] [])) ∧
((v1 < (1 : Int)) → Q [(0 : Int)] [])) ∧
(((3 : Int) < v0) → Q [(0 : Int)] [])) ∧
((v0 < (1 : Int)) → Q [(0 : Int)] [])) := by kernel_rfl
set_option maxHeartbeats 4000000 in
theorem pWithin_holds : (L2.within_ L2.f_pte_Within).Holds Tryz.prog L2.ro := FSpec.holdsV (cfg := L2.cfg Tryz.prog) [] 20 200 cfg_ok mixed (t := pWithin_t) pWithin_tree (by
  show ∀ (v0 v1 : Int) , _
  intro v0 v1  hp hr hl
  replace hr : (((-9223372036854775808) : Int) ≤ v0 ∧ v0 ≤ ((9223372036854775807) : Int)) ∧ (((-9223372036854775808) : Int) ≤ v1 ∧ v1 ≤ ((9223372036854775807) : Int)) ∧ True := hr
  replace hl : True := hl
  show pWithin_t.dn ⟨_, []⟩ 2 [v1, v0] 0 []
  rw [pWithin_vc]
  have bits : 1 ≤ v0 → v0 ≤ 3 → 1 ≤ v1 → v1 ≤ 3 → (bitDen .andNot .i64 v0 v1 = 0 ↔ v0 = v1 ∨ v1 = 3) := by
    intro a b c d
    have h0 : v0 = 1 ∨ v0 = 2 ∨ v0 = 3 := by omega
    have h1 : v1 = 1 ∨ v1 = 2 ∨ v1 = 3 := by omega
    rcases h0 with rfl | rfl | rfl <;> rcases h1 with rfl | rfl | rfl <;> decide +kernel
  repeat' first | refine And.intro ?_ ?_ | intro _
  all_goals
    show [_] = [b2i (withinB v0 v1)]
    grind [withinB, rightsB, b2i])
noncomputable def rWithin_t : Tree := .letI (.cmp .leq (.c 1) (.v 0)) (.ite (.v 2) (.letI (.cmp .leq (.v 0) (.c 3)) (.ite (.v 3) (.letI (.cmp .leq (.c 1) (.v 1)) (.ite (.v 4) (.letI (.cmp .leq (.v 1) (.c 3)) (.ite (.v 5) (.letI (.rem (.v 0) (.c 2)) (.letI (.cmp .eql (.v 6) (.c 0)) (.ite (.v 7) (.letI (.cmp .lss (.v 0) (.c 2)) (.ite (.v 8) (.done [.c (1)] []) (.letI (.cmp .leq (.c 2) (.v 1)) (.done [.v 9] [])))) (.letI (.rem (.v 1) (.c 2)) (.letI (.cmp .eql (.v 8) (.c 1)) (.ite (.v 9) (.letI (.cmp .lss (.v 0) (.c 2)) (.ite (.v 10) (.done [.c (1)] []) (.letI (.cmp .leq (.c 2) (.v 1)) (.done [.v 11] [])))) (.done [.c (0)] []))))))) (.done [.c (0)] []))) (.done [.c (0)] []))) (.done [.c (0)] []))) (.done [.c (0)] []))
theorem rWithin_tree : (L2.within_ L2.f_messuageref2_Within).exe Tryz.prog (L2.cfg Tryz.prog) [] 20 200 = rWithin_t := by kernel_rfl
theorem rWithin_vc (Q : List Int → List (List Int) → Prop) (v0 v1 : Int) : rWithin_t.dn ⟨Q, []⟩ 2 [v1, v0] 0 [] = ((((1 : Int) ≤ v0) → ((v0 ≤ (3 : Int)) → (((1 : Int) ≤ v1) → ((v1 ≤ (3 : Int)) → ∀ v6 : Int, v6 = (v0).tmod (2 : Int) → ((v6 = (0 : Int)) → ((v0 < (2 : Int)) → Q [(1 : Int)] []) ∧
(((2 : Int) ≤ v0) → ∀ v9 : Int, v9 = b2i (decide ((2 : Int) ≤ v1)) → Q [v9] [])) ∧
((v6 ≠ (0 : Int)) → ∀ v8 : Int, v8 = (v1).tmod (2 : Int) → ((v8 = (1 : Int)) → ((v0 < (2 : Int)) → Q [(1 : Int)] []) ∧
(((2 : Int) ≤ v0) → ∀ v11 : Int, v11 = b2i (decide ((2 : Int) ≤ v1)) → Q [v11] [])) ∧
((v8 ≠ (1 : Int)) → Q [(0 : Int)] []))) ∧
(((3 : Int) < v1) → Q [(0 : Int)] [])) ∧
((v1 < (1 : Int)) → Q [(0 : Int)] [])) ∧
(((3 : Int) < v0) → Q [(0 : Int)] [])) ∧
((v0 < (1 : Int)) → Q [(0 : Int)] [])) := by kernel_rfl
set_option maxHeartbeats 4000000 in
theorem rWithin_holds : (L2.within_ L2.f_messuageref2_Within).Holds Tryz.prog L2.ro := FSpec.holdsV (cfg := L2.cfg Tryz.prog) [] 20 200 cfg_ok mixed (t := rWithin_t) rWithin_tree (by
  show ∀ (v0 v1 : Int) , _
  intro v0 v1  hp hr hl
  replace hr : (((-9223372036854775808) : Int) ≤ v0 ∧ v0 ≤ ((9223372036854775807) : Int)) ∧ (((-9223372036854775808) : Int) ≤ v1 ∧ v1 ≤ ((9223372036854775807) : Int)) ∧ True := hr
  replace hl : True := hl
  show rWithin_t.dn ⟨_, []⟩ 2 [v1, v0] 0 []
  rw [rWithin_vc]
  repeat' first | refine And.intro ?_ ?_ | intro _
  all_goals first | omega | skip
  all_goals
    show [_] = [b2i (withinB v0 v1)]
    have t0 : 1 ≤ v0 → v0 ≤ 3 → v0.tmod 2 = v0 % 2 := fun a _ => Int.tmod_eq_emod_of_nonneg (by omega)
    have t1 : 1 ≤ v1 → v1 ≤ 3 → v1.tmod 2 = v1 % 2 := fun a _ => Int.tmod_eq_emod_of_nonneg (by omega)
    grind [withinB, rightsB, b2i])
noncomputable def pLets_t : Tree := .letI (.cmp .eql (.v 1) (.c 20)) (.ite (.v 2) (.letI (.cmp .leq (.c 1) (.v 0)) (.ite (.v 3) (.letI (.cmp .leq (.v 0) (.c 3)) (.ite (.v 4) (.letI (.bit .andNot .i64 (.c 1) (.v 0)) (.letI (.cmp .eql (.v 5) (.c 0)) (.done [.v 6] []))) (.done [.c (0)] []))) (.done [.c (0)] []))) (.letI (.cmp .eql (.v 1) (.c 21)) (.ite (.v 3) (.letI (.cmp .leq (.c 1) (.v 0)) (.ite (.v 4) (.letI (.cmp .leq (.v 0) (.c 3)) (.ite (.v 5) (.letI (.bit .andNot .i64 (.c 2) (.v 0)) (.letI (.cmp .eql (.v 6) (.c 0)) (.done [.v 7] []))) (.done [.c (0)] []))) (.done [.c (0)] []))) (.letI (.cmp .eql (.v 1) (.c 22)) (.ite (.v 4) (.letI (.cmp .leq (.c 1) (.v 0)) (.ite (.v 5) (.letI (.cmp .leq (.v 0) (.c 3)) (.ite (.v 6) (.letI (.bit .andNot .i64 (.c 3) (.v 0)) (.letI (.cmp .eql (.v 7) (.c 0)) (.done [.v 8] []))) (.done [.c (0)] []))) (.done [.c (0)] []))) (.letI (.cmp .eql (.v 1) (.c 23)) (.ite (.v 5) (.letI (.cmp .leq (.c 1) (.v 0)) (.ite (.v 6) (.letI (.cmp .leq (.v 0) (.c 3)) (.ite (.v 7) (.letI (.bit .andNot .i64 (.c 3) (.v 0)) (.letI (.cmp .eql (.v 8) (.c 0)) (.done [.v 9] []))) (.done [.c (0)] []))) (.done [.c (0)] []))) (.done [.c (0)] []))))))))
theorem pLets_tree : (L2.lets_ L2.f_pte_Lets).exe Tryz.prog (L2.cfg Tryz.prog) [] 20 200 = pLets_t := by kernel_rfl
theorem pLets_vc (Q : List Int → List (List Int) → Prop) (v0 v1 : Int) : pLets_t.dn ⟨Q, []⟩ 2 [v1, v0] 0 [] = (((v1 = (20 : Int)) → (((1 : Int) ≤ v0) → ((v0 ≤ (3 : Int)) → ∀ v5 : Int, v5 = bitDen .andNot .i64 (1 : Int) v0 → ∀ v6 : Int, v6 = b2i (v5 == (0 : Int)) → Q [v6] []) ∧
(((3 : Int) < v0) → Q [(0 : Int)] [])) ∧
((v0 < (1 : Int)) → Q [(0 : Int)] [])) ∧
((v1 ≠ (20 : Int)) → ((v1 = (21 : Int)) → (((1 : Int) ≤ v0) → ((v0 ≤ (3 : Int)) → ∀ v6 : Int, v6 = bitDen .andNot .i64 (2 : Int) v0 → ∀ v7 : Int, v7 = b2i (v6 == (0 : Int)) → Q [v7] []) ∧
(((3 : Int) < v0) → Q [(0 : Int)] [])) ∧
((v0 < (1 : Int)) → Q [(0 : Int)] [])) ∧
((v1 ≠ (21 : Int)) → ((v1 = (22 : Int)) → (((1 : Int) ≤ v0) → ((v0 ≤ (3 : Int)) → ∀ v7 : Int, v7 = bitDen .andNot .i64 (3 : Int) v0 → ∀ v8 : Int, v8 = b2i (v7 == (0 : Int)) → Q [v8] []) ∧
(((3 : Int) < v0) → Q [(0 : Int)] [])) ∧
((v0 < (1 : Int)) → Q [(0 : Int)] [])) ∧
((v1 ≠ (22 : Int)) → ((v1 = (23 : Int)) → (((1 : Int) ≤ v0) → ((v0 ≤ (3 : Int)) → ∀ v8 : Int, v8 = bitDen .andNot .i64 (3 : Int) v0 → ∀ v9 : Int, v9 = b2i (v8 == (0 : Int)) → Q [v9] []) ∧
(((3 : Int) < v0) → Q [(0 : Int)] [])) ∧
((v0 < (1 : Int)) → Q [(0 : Int)] [])) ∧
((v1 ≠ (23 : Int)) → Q [(0 : Int)] []))))) := by kernel_rfl
set_option maxHeartbeats 4000000 in
theorem pLets_holds : (L2.lets_ L2.f_pte_Lets).Holds Tryz.prog L2.ro := FSpec.holdsV (cfg := L2.cfg Tryz.prog) [] 20 200 cfg_ok mixed (t := pLets_t) pLets_tree (by
  show ∀ (v0 v1 : Int) , _
  intro v0 v1  hp hr hl
  replace hr : (((-9223372036854775808) : Int) ≤ v0 ∧ v0 ≤ ((9223372036854775807) : Int)) ∧ (((-9223372036854775808) : Int) ≤ v1 ∧ v1 ≤ ((9223372036854775807) : Int)) ∧ True := hr
  replace hl : True := hl
  show pLets_t.dn ⟨_, []⟩ 2 [v1, v0] 0 []
  rw [pLets_vc]
  have bits : ∀ n : Int, (n = 1 ∨ n = 2 ∨ n = 3) → 1 ≤ v0 → v0 ≤ 3 → (bitDen .andNot .i64 n v0 = 0 ↔ n = v0 ∨ v0 = 3) := by
    intro n hn c d
    have h1 : v0 = 1 ∨ v0 = 2 ∨ v0 = 3 := by omega
    rcases hn with rfl | rfl | rfl <;> rcases h1 with rfl | rfl | rfl <;> decide +kernel
  have b1 := bits 1 (by omega)
  have b2 := bits 2 (by omega)
  have b3 := bits 3 (by omega)
  clear bits
  by_cases h0 : v0 < 1 ∨ 3 < v0
  · have e := letsB_out (k := v1) h0
    repeat' first | refine And.intro ?_ ?_ | intro _
    all_goals first | omega | (show [_] = [b2i (letsB v0 v1)]; rw [e]; rfl) | (show [_] = [b2i (letsB v0 v1)]; rw [e]; grind [b2i])
  · have h1 : v0 = 1 ∨ v0 = 2 ∨ v0 = 3 := by omega
    clear hp hr hl
    rcases h1 with rfl | rfl | rfl
    all_goals
      repeat' first | refine And.intro ?_ ?_ | intro _
      all_goals first | omega | (show [_] = [b2i (letsB _ v1)]; simp_all [letsB, b2i]; done) | (show [_] = [b2i (letsB _ v1)]; simp_all [letsB, b2i]; omega))
noncomputable def pPut_t : Tree := .letI (.cmp .eql (.v 0) (.c 0)) (.letI (.cmp .eql (.v 1) (.c 0)) (.letI (.cmp .eql (.v 2) (.c 0)) (.letI (.pick (.v 5) (.c 1) (.c 0)) (.letI (.pick (.v 4) (.v 6) (.c 0)) (.letI (.pick (.v 3) (.v 7) (.c 0)) (.ite (.v 8) (.done [.c (0), .c (1)] []) (.letI (.cmp .lss (.v 0) (.c 0)) (.ite (.v 9) (.done [.c (0), .c (0)] []) (.letI (.cmp .leq (.c 16) (.v 0)) (.ite (.v 10) (.done [.c (0), .c (0)] []) (.letI (.cmp .lss (.v 1) (.c 0)) (.ite (.v 11) (.done [.c (0), .c (0)] []) (.letI (.cmp .leq (.c 8) (.v 1)) (.ite (.v 12) (.done [.c (0), .c (0)] []) (.letI (.cmp .leq (.c 1) (.v 2)) (.ite (.v 13) (.letI (.cmp .leq (.v 2) (.c 3)) (.letI (.not (.v 14)) (.ite (.v 15) (.done [.c (0), .c (0)] []) (.letI (.mul (.c 256) (.v 0)) (.letI (.wr .i64 (.v 16)) (.letI (.add (.c 32768) (.v 17)) (.letI (.wr .i64 (.v 18)) (.letI (.mul (.c 16) (.v 1)) (.letI (.wr .i64 (.v 20)) (.letI (.add (.v 19) (.v 21)) (.letI (.wr .i64 (.v 22)) (.letI (.add (.v 23) (.v 2)) (.letI (.wr .i64 (.v 24)) (.letI (.wr .u64 (.v 25)) (.need .leq (.v 26) (.c 65535) (.done [.v 26, .c (1)] [])))))))))))))))) (.done [.c (0), .c (0)] [])))))))))))))))))
theorem pPut_tree : (L2.put_ L2.f_pte_Put).exe Tryz.prog (L2.cfg Tryz.prog) [] 20 200 = pPut_t := by kernel_rfl
theorem pPut_vc (Q : List Int → List (List Int) → Prop) (v0 v1 v2 : Int) : pPut_t.dn ⟨Q, []⟩ 3 [v2, v1, v0] 0 [] = (∀ v3 : Int, v3 = b2i (v0 == (0 : Int)) → ∀ v4 : Int, v4 = b2i (v1 == (0 : Int)) → ∀ v5 : Int, v5 = b2i (v2 == (0 : Int)) → ∀ v6 : Int, v6 = (if v5 = 0 then (0 : Int) else (1 : Int)) → ∀ v7 : Int, v7 = (if v4 = 0 then (0 : Int) else v6) → ∀ v8 : Int, v8 = (if v3 = 0 then (0 : Int) else v7) → (v8 ≠ 0 → Q [(0 : Int), (1 : Int)] []) ∧
(v8 = 0 → ((v0 < (0 : Int)) → Q [(0 : Int), (0 : Int)] []) ∧
(((0 : Int) ≤ v0) → (((16 : Int) ≤ v0) → Q [(0 : Int), (0 : Int)] []) ∧
((v0 < (16 : Int)) → ((v1 < (0 : Int)) → Q [(0 : Int), (0 : Int)] []) ∧
(((0 : Int) ≤ v1) → (((8 : Int) ≤ v1) → Q [(0 : Int), (0 : Int)] []) ∧
((v1 < (8 : Int)) → (((1 : Int) ≤ v2) → ∀ v14 : Int, v14 = b2i (decide (v2 ≤ (3 : Int))) → ∀ v15 : Int, v15 = b2i (v14 == 0) → (v15 ≠ 0 → Q [(0 : Int), (0 : Int)] []) ∧
(v15 = 0 → ∀ v16 : Int, v16 = (256 : Int) * v0 → ∀ v17 : Int, v17 = IntKind.wrap .i64 v16 → ∀ v18 : Int, v18 = (32768 : Int) + v17 → ∀ v19 : Int, v19 = IntKind.wrap .i64 v18 → ∀ v20 : Int, v20 = (16 : Int) * v1 → ∀ v21 : Int, v21 = IntKind.wrap .i64 v20 → ∀ v22 : Int, v22 = v19 + v21 → ∀ v23 : Int, v23 = IntKind.wrap .i64 v22 → ∀ v24 : Int, v24 = v23 + v2 → ∀ v25 : Int, v25 = IntKind.wrap .i64 v24 → ∀ v26 : Int, v26 = IntKind.wrap .u64 v25 → (v26 ≤ (65535 : Int)) ∧ Q [v26, (1 : Int)] [])) ∧
((v2 < (1 : Int)) → Q [(0 : Int), (0 : Int)] []))))))) := by kernel_rfl
set_option maxHeartbeats 4000000 in
theorem pPut_holds : (L2.put_ L2.f_pte_Put).Holds Tryz.prog L2.ro := FSpec.holdsV (cfg := L2.cfg Tryz.prog) [] 20 200 cfg_ok mixed (t := pPut_t) pPut_tree (by
  show ∀ (v0 v1 v2 : Int) , _
  intro v0 v1 v2  hp hr hl
  replace hr : (((-9223372036854775808) : Int) ≤ v0 ∧ v0 ≤ ((9223372036854775807) : Int)) ∧ (((-9223372036854775808) : Int) ≤ v1 ∧ v1 ≤ ((9223372036854775807) : Int)) ∧ (((-9223372036854775808) : Int) ≤ v2 ∧ v2 ≤ ((9223372036854775807) : Int)) ∧ True := hr
  replace hl : True := hl
  show pPut_t.dn ⟨_, []⟩ 3 [v2, v1, v0] 0 []
  rw [pPut_vc]
  simp only [wrapI, wrapU, b2i]
  repeat' first | refine And.intro ?_ ?_ | intro _
  all_goals first | omega | skip
  all_goals
    first
    | show [_, _] = [pteN v0 v1 v2, b2i (pteOk v0 v1 v2)]
    | skip
  all_goals grind [pteN, pteOk, rightsB, b2i])
end Go.Proofs.YtpmgfdakljjlaaaGreatDoor
