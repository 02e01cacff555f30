/- Contracts: calls of PlainSleep. -/
import Derived.Test.YtbpilohnhhbbpaaGreatDoorL2Facts
import Derived.Test.YtbpilohnhhbbpaaGreatDoorSxM7
import Derived.Test.YtbpilohnhhbbpaaGreatDoorL2Y
set_option linter.unusedVariables false
set_option linter.constructorNameAsVariable false
set_option linter.unusedSimpArgs false
open Go Go.Sx
namespace Go.Proofs.YtbpilohnhhbbpaaGreatDoor
set_option maxRecDepth 100000
noncomputable def qS1_t : Tree := .done [] []
theorem qS1_tree : (L2.qS1).exe Tryz.prog (L2.cfg Tryz.prog) [] 20 200 = qS1_t := by kernel_rfl
theorem qS1_vc (Q : List Int → List (List Int) → Prop) (v0 v1 : Int) : qS1_t.dn ⟨Q, []⟩ 2 [v1, v0] 0 [] = (Q [] []) := by kernel_rfl
set_option maxHeartbeats 4000000 in
theorem qS1_holds : (L2.qS1).Holds Tryz.prog L2.ro := FSpec.holdsV (cfg := L2.cfg Tryz.prog) [] 20 200 cfg_ok mixed (t := qS1_t) qS1_tree (by
  show ∀ (v0 v1 : Int) , _
  intro v0 v1  hp hr hl
  replace hr : (((2) : Int) ≤ v0 ∧ v0 ≤ ((9223372036854775807) : Int)) ∧ (((1) : Int) ≤ v1 ∧ v1 ≤ ((9223372036854775807) : Int)) ∧ True := hr
  replace hl : True := hl
  show qS1_t.dn ⟨_, []⟩ 2 [v1, v0] 0 []
  rw [qS1_vc]
  repeat' first | refine And.intro ?_ ?_ | intro _
  all_goals trivial)
noncomputable def qS2_t : Tree := .done [] []
theorem qS2_tree : (L2.qS2).exe Tryz.prog (L2.cfg Tryz.prog) [] 20 200 = qS2_t := by kernel_rfl
theorem qS2_vc (Q : List Int → List (List Int) → Prop) (v0 v1 : Int) : qS2_t.dn ⟨Q, []⟩ 2 [v1, v0] 0 [] = (Q [] []) := by kernel_rfl
set_option maxHeartbeats 4000000 in
theorem qS2_holds : (L2.qS2).Holds Tryz.prog L2.ro := FSpec.holdsV (cfg := L2.cfg Tryz.prog) [] 20 200 cfg_ok mixed (t := qS2_t) qS2_tree (by
  show ∀ (v0 v1 : Int) , _
  intro v0 v1  hp hr hl
  replace hr : (((2) : Int) ≤ v0 ∧ v0 ≤ ((9223372036854775807) : Int)) ∧ (((1) : Int) ≤ v1 ∧ v1 ≤ ((9223372036854775807) : Int)) ∧ True := hr
  replace hl : True := hl
  show qS2_t.dn ⟨_, []⟩ 2 [v1, v0] 0 []
  rw [qS2_vc]
  repeat' first | refine And.intro ?_ ?_ | intro _
  all_goals trivial)
noncomputable def qS3_t : Tree := .letI (.wr .i64 (.v 3)) (.both (.letL (.set 0 (.v 2) (.v 3)) (.done [] [1])) (.letL (.set 0 (.v 2) (.v 3)) (.done [] [1])))
theorem qS3_tree : (L2.qS3).exe Tryz.prog (L2.cfg Tryz.prog) [] 20 200 = qS3_t := by kernel_rfl
theorem qS3_vc (Q : List Int → List (List Int) → Prop) (v0 v1 v2 v3 : Int) (L0 : List Int) : qS3_t.dn ⟨Q, []⟩ 4 [v3, v2, v1, v0] 1 [L0] = (∀ v4 : Int, v4 = IntKind.wrap .i64 v3 → (∀ L1 : List Int, L1 = (L0).set (v2).toNat v3 → Q [] [L1]) ∧
(∀ L1 : List Int, L1 = (L0).set (v2).toNat v3 → Q [] [L1])) := by kernel_rfl
set_option maxHeartbeats 4000000 in
theorem qS3_holds : (L2.qS3).Holds Tryz.prog L2.ro := FSpec.holdsV (cfg := L2.cfg Tryz.prog) [] 20 200 cfg_ok mixed (t := qS3_t) qS3_tree (by
  show ∀ (v0 v1 v2 v3 : Int) (L0 : List Int), _
  intro v0 v1 v2 v3 L0 hp hr hl
  replace hr : (((2) : Int) ≤ v0 ∧ v0 ≤ ((9223372036854775807) : Int)) ∧ (((1) : Int) ≤ v1 ∧ v1 ≤ ((9223372036854775807) : Int)) ∧ (((0) : Int) ≤ v2 ∧ v2 ≤ ((15) : Int)) ∧ (((0) : Int) ≤ v3 ∧ v3 ≤ ((18446744073709551615) : Int)) ∧ True := hr
  replace hl : (∀ x ∈ L0, (((0) : Int) ≤ x ∧ x ≤ ((18446744073709551615) : Int))) ∧ True := hl
  show qS3_t.dn ⟨_, []⟩ 4 [v3, v2, v1, v0] 1 [L0]
  rw [qS3_vc]
  repeat' first | refine And.intro ?_ ?_ | intro _
  all_goals first | rfl | (show [_] = [L0.set v2.toNat v3]; grind))
noncomputable def qS4_t : Tree := .both (.letI (.get 0 (.v 2)) (.letI (.cmp .eql (.v 3) (.c 1)) (.ite (.v 6) (.letI (.cmp .eql (.v 4) (.v 5)) (.letI (.not (.v 7)) (.ite (.v 8) (.done [.c (0), .c (0)] []) (.done [.v 5, .c (1)] [])))) (.letI (.cmp .eql (.v 3) (.c 2)) (.ite (.v 7) (.letI (.cmp .neq (.v 4) (.v 5)) (.letI (.not (.v 8)) (.ite (.v 9) (.done [.c (0), .c (0)] []) (.done [.v 5, .c (1)] [])))) (.letI (.cmp .eql (.v 3) (.c 3)) (.ite (.v 8) (.letI (.cmp .lss (.v 5) (.v 4)) (.letI (.not (.v 9)) (.ite (.v 10) (.done [.c (0), .c (0)] []) (.done [.v 5, .c (1)] [])))) (.letI (.cmp .lss (.v 4) (.v 5)) (.letI (.not (.v 9)) (.ite (.v 10) (.done [.c (0), .c (0)] []) (.done [.v 5, .c (1)] []))))))))))) (.letI (.get 0 (.v 2)) (.letI (.cmp .eql (.v 3) (.c 1)) (.ite (.v 6) (.letI (.cmp .eql (.v 4) (.v 5)) (.letI (.not (.v 7)) (.ite (.v 8) (.done [.c (0), .c (0)] []) (.done [.v 5, .c (1)] [])))) (.letI (.cmp .eql (.v 3) (.c 2)) (.ite (.v 7) (.letI (.cmp .neq (.v 4) (.v 5)) (.letI (.not (.v 8)) (.ite (.v 9) (.done [.c (0), .c (0)] []) (.done [.v 5, .c (1)] [])))) (.letI (.cmp .eql (.v 3) (.c 3)) (.ite (.v 8) (.letI (.cmp .lss (.v 5) (.v 4)) (.letI (.not (.v 9)) (.ite (.v 10) (.done [.c (0), .c (0)] []) (.done [.v 5, .c (1)] [])))) (.letI (.cmp .lss (.v 4) (.v 5)) (.letI (.not (.v 9)) (.ite (.v 10) (.done [.c (0), .c (0)] []) (.done [.v 5, .c (1)] [])))))))))))
theorem qS4_tree : (L2.qS4).exe Tryz.prog (L2.cfg Tryz.prog) [] 20 200 = qS4_t := by kernel_rfl
theorem qS4_vc (Q : List Int → List (List Int) → Prop) (v0 v1 v2 v3 v4 : Int) (L0 : List Int) : qS4_t.dn ⟨Q, []⟩ 5 [v4, v3, v2, v1, v0] 1 [L0] = ((∀ v5 : Int, v5 = (L0).getD (v2).toNat 0 → ((v3 = (1 : Int)) → ∀ v7 : Int, v7 = b2i (v4 == v5) → ∀ v8 : Int, v8 = b2i (v7 == 0) → (v8 ≠ 0 → Q [(0 : Int), (0 : Int)] []) ∧
(v8 = 0 → Q [v5, (1 : Int)] [])) ∧
((v3 ≠ (1 : Int)) → ((v3 = (2 : Int)) → ∀ v8 : Int, v8 = b2i (v4 != v5) → ∀ v9 : Int, v9 = b2i (v8 == 0) → (v9 ≠ 0 → Q [(0 : Int), (0 : Int)] []) ∧
(v9 = 0 → Q [v5, (1 : Int)] [])) ∧
((v3 ≠ (2 : Int)) → ((v3 = (3 : Int)) → ∀ v9 : Int, v9 = b2i (decide (v5 < v4)) → ∀ v10 : Int, v10 = b2i (v9 == 0) → (v10 ≠ 0 → Q [(0 : Int), (0 : Int)] []) ∧
(v10 = 0 → Q [v5, (1 : Int)] [])) ∧
((v3 ≠ (3 : Int)) → ∀ v9 : Int, v9 = b2i (decide (v4 < v5)) → ∀ v10 : Int, v10 = b2i (v9 == 0) → (v10 ≠ 0 → Q [(0 : Int), (0 : Int)] []) ∧
(v10 = 0 → Q [v5, (1 : Int)] []))))) ∧
(∀ v5 : Int, v5 = (L0).getD (v2).toNat 0 → ((v3 = (1 : Int)) → ∀ v7 : Int, v7 = b2i (v4 == v5) → ∀ v8 : Int, v8 = b2i (v7 == 0) → (v8 ≠ 0 → Q [(0 : Int), (0 : Int)] []) ∧
(v8 = 0 → Q [v5, (1 : Int)] [])) ∧
((v3 ≠ (1 : Int)) → ((v3 = (2 : Int)) → ∀ v8 : Int, v8 = b2i (v4 != v5) → ∀ v9 : Int, v9 = b2i (v8 == 0) → (v9 ≠ 0 → Q [(0 : Int), (0 : Int)] []) ∧
(v9 = 0 → Q [v5, (1 : Int)] [])) ∧
((v3 ≠ (2 : Int)) → ((v3 = (3 : Int)) → ∀ v9 : Int, v9 = b2i (decide (v5 < v4)) → ∀ v10 : Int, v10 = b2i (v9 == 0) → (v10 ≠ 0 → Q [(0 : Int), (0 : Int)] []) ∧
(v10 = 0 → Q [v5, (1 : Int)] [])) ∧
((v3 ≠ (3 : Int)) → ∀ v9 : Int, v9 = b2i (decide (v4 < v5)) → ∀ v10 : Int, v10 = b2i (v9 == 0) → (v10 ≠ 0 → Q [(0 : Int), (0 : Int)] []) ∧
(v10 = 0 → Q [v5, (1 : Int)] [])))))) := by kernel_rfl
set_option maxHeartbeats 4000000 in
theorem qS4_holds : (L2.qS4).Holds Tryz.prog L2.ro := FSpec.holdsV (cfg := L2.cfg Tryz.prog) [] 20 200 cfg_ok mixed (t := qS4_t) qS4_tree (by
  show ∀ (v0 v1 v2 v3 v4 : Int) (L0 : List Int), _
  intro v0 v1 v2 v3 v4 L0 hp hr hl
  replace hr : (((2) : Int) ≤ v0 ∧ v0 ≤ ((9223372036854775807) : Int)) ∧ (((1) : Int) ≤ v1 ∧ v1 ≤ ((9223372036854775807) : Int)) ∧ (((0) : Int) ≤ v2 ∧ v2 ≤ ((15) : Int)) ∧ (((1) : Int) ≤ v3 ∧ v3 ≤ ((4) : Int)) ∧ (((0) : Int) ≤ v4 ∧ v4 ≤ ((18446744073709551615) : Int)) ∧ True := hr
  replace hl : (∀ x ∈ L0, (((0) : Int) ≤ x ∧ x ≤ ((18446744073709551615) : Int))) ∧ True := hl
  show qS4_t.dn ⟨_, []⟩ 5 [v4, v3, v2, v1, v0] 1 [L0]
  rw [qS4_vc]
  repeat' first | refine And.intro ?_ ?_ | intro _
  all_goals first | rfl | (show [_, _] = [if sleepB v3 (L0.getD v2.toNat 0) v4 then L0.getD v2.toNat 0 else 0, b2i (sleepB v3 (L0.getD v2.toNat 0) v4)]; grind [sleepB, b2i]))
noncomputable def qS5_t : Tree := .done [] []
theorem qS5_tree : (L2.qS5).exe Tryz.prog (L2.cfg Tryz.prog) [] 20 200 = qS5_t := by kernel_rfl
theorem qS5_vc (Q : List Int → List (List Int) → Prop) (v0 v1 : Int) (L0 : List Int) : qS5_t.dn ⟨Q, []⟩ 2 [v1, v0] 1 [L0] = (Q [] []) := by kernel_rfl
set_option maxHeartbeats 4000000 in
theorem qS5_holds : (L2.qS5).Holds Tryz.prog L2.ro := FSpec.holdsV (cfg := L2.cfg Tryz.prog) [] 20 200 cfg_ok mixed (t := qS5_t) qS5_tree (by
  show ∀ (v0 v1 : Int) (L0 : List Int), _
  intro v0 v1 L0 hp hr hl
  replace hr : (((2) : Int) ≤ v0 ∧ v0 ≤ ((9223372036854775807) : Int)) ∧ (((1) : Int) ≤ v1 ∧ v1 ≤ ((9223372036854775807) : Int)) ∧ True := hr
  replace hl : (∀ x ∈ L0, (((0) : Int) ≤ x ∧ x ≤ ((18446744073709551615) : Int))) ∧ True := hl
  show qS5_t.dn ⟨_, []⟩ 2 [v1, v0] 1 [L0]
  rw [qS5_vc]
  repeat' first | refine And.intro ?_ ?_ | intro _
  all_goals trivial)
noncomputable def qS6_t : Tree := .both (.done [] []) (.done [] [])
theorem qS6_tree : (L2.qS6).exe Tryz.prog (L2.cfg Tryz.prog) [] 20 200 = qS6_t := by kernel_rfl
theorem qS6_vc (Q : List Int → List (List Int) → Prop) (v0 v1 v2 v3 v4 v5 : Int) (L0 : List Int) : qS6_t.dn ⟨Q, []⟩ 6 [v5, v4, v3, v2, v1, v0] 1 [L0] = ((Q [] []) ∧
(Q [] [])) := by kernel_rfl
set_option maxHeartbeats 4000000 in
theorem qS6_holds : (L2.qS6).Holds Tryz.prog L2.ro := FSpec.holdsV (cfg := L2.cfg Tryz.prog) [] 20 200 cfg_ok mixed (t := qS6_t) qS6_tree (by
  show ∀ (v0 v1 v2 v3 v4 v5 : Int) (L0 : List Int), _
  intro v0 v1 v2 v3 v4 v5 L0 hp hr hl
  replace hr : (((2) : Int) ≤ v0 ∧ v0 ≤ ((9223372036854775807) : Int)) ∧ (((1) : Int) ≤ v1 ∧ v1 ≤ ((9223372036854775807) : Int)) ∧ (((0) : Int) ≤ v2 ∧ v2 ≤ ((15) : Int)) ∧ (((1) : Int) ≤ v3 ∧ v3 ≤ ((4) : Int)) ∧ (((0) : Int) ≤ v4 ∧ v4 ≤ ((18446744073709551615) : Int)) ∧ (((5) : Int) ≤ v5 ∧ v5 ≤ ((5) : Int)) ∧ True := hr
  replace hl : (∀ x ∈ L0, (((0) : Int) ≤ x ∧ x ≤ ((18446744073709551615) : Int))) ∧ True := hl
  show qS6_t.dn ⟨_, []⟩ 6 [v5, v4, v3, v2, v1, v0] 1 [L0]
  rw [qS6_vc]
  repeat' first | refine And.intro ?_ ?_ | intro _
  all_goals trivial)
noncomputable def qS7_t : Tree := .both (.done [] []) (.done [] [])
theorem qS7_tree : (L2.qS7).exe Tryz.prog (L2.cfg Tryz.prog) [] 20 200 = qS7_t := by kernel_rfl
theorem qS7_vc (Q : List Int → List (List Int) → Prop) (v0 v1 v2 v3 v4 v5 : Int) (L0 : List Int) : qS7_t.dn ⟨Q, []⟩ 6 [v5, v4, v3, v2, v1, v0] 1 [L0] = ((Q [] []) ∧
(Q [] [])) := by kernel_rfl
set_option maxHeartbeats 4000000 in
theorem qS7_holds : (L2.qS7).Holds Tryz.prog L2.ro := FSpec.holdsV (cfg := L2.cfg Tryz.prog) [] 20 200 cfg_ok mixed (t := qS7_t) qS7_tree (by
  show ∀ (v0 v1 v2 v3 v4 v5 : Int) (L0 : List Int), _
  intro v0 v1 v2 v3 v4 v5 L0 hp hr hl
  replace hr : (((2) : Int) ≤ v0 ∧ v0 ≤ ((9223372036854775807) : Int)) ∧ (((1) : Int) ≤ v1 ∧ v1 ≤ ((9223372036854775807) : Int)) ∧ (((0) : Int) ≤ v2 ∧ v2 ≤ ((15) : Int)) ∧ (((1) : Int) ≤ v3 ∧ v3 ≤ ((4) : Int)) ∧ (((0) : Int) ≤ v4 ∧ v4 ≤ ((18446744073709551615) : Int)) ∧ (((6) : Int) ≤ v5 ∧ v5 ≤ ((6) : Int)) ∧ True := hr
  replace hl : (∀ x ∈ L0, (((0) : Int) ≤ x ∧ x ≤ ((18446744073709551615) : Int))) ∧ True := hl
  show qS7_t.dn ⟨_, []⟩ 6 [v5, v4, v3, v2, v1, v0] 1 [L0]
  rw [qS7_vc]
  repeat' first | refine And.intro ?_ ?_ | intro _
  all_goals trivial)
end Go.Proofs.YtbpilohnhhbbpaaGreatDoor
