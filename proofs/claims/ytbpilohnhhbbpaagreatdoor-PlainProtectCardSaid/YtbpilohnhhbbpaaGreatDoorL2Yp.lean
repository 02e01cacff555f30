/- Contracts: calls of PlainProtect. -/
import Derived.Test.YtbpilohnhhbbpaaGreatDoorL2Facts
import Derived.Test.YtbpilohnhhbbpaaGreatDoorSxM7
import Derived.Test.YtbpilohnhhbbpaaGreatDoorL2Y
set_option linter.unusedVariables false
set_option linter.constructorNameAsVariable false
set_option linter.unusedSimpArgs false
open Go Go.Sx
namespace Go.Proofs.YtbpilohnhhbbpaaGreatDoor
set_option maxRecDepth 100000
noncomputable def qA_t : Tree := .done [] []
theorem qA_tree : (L2.qA).exe Tryz.prog (L2.cfg Tryz.prog) [] 20 200 = qA_t := by kernel_rfl
theorem qA_vc (Q : List Int → List (List Int) → Prop) (v0 v1 : Int) : qA_t.dn ⟨Q, []⟩ 2 [v1, v0] 0 [] = (Q [] []) := by kernel_rfl
set_option maxHeartbeats 4000000 in
theorem qA_holds : (L2.qA).Holds Tryz.prog L2.ro := FSpec.holdsV (cfg := L2.cfg Tryz.prog) [] 20 200 cfg_ok mixed (t := qA_t) qA_tree (by
  show ∀ (v0 v1 : Int) , _
  intro v0 v1  hp hr hl
  replace hr : (((2) : Int) ≤ v0 ∧ v0 ≤ ((9223372036854775807) : Int)) ∧ (((1) : Int) ≤ v1 ∧ v1 ≤ ((9223372036854775807) : Int)) ∧ True := hr
  replace hl : True := hl
  show qA_t.dn ⟨_, []⟩ 2 [v1, v0] 0 []
  rw [qA_vc]
  repeat' first | refine And.intro ?_ ?_ | intro _
  all_goals trivial)
noncomputable def qP1_t : Tree := .letI (.bit .andNot .i64 (.v 2) (.c 3)) (.letI (.cmp .eql (.v 3) (.c 0)) (.letI (.not (.v 4)) (.ite (.v 5) (.fail 180) (.done [] []))))
theorem qP1_tree : (L2.qP1).exe Tryz.prog (L2.cfg Tryz.prog) [] 20 200 = qP1_t := by kernel_rfl
theorem qP1_vc (Q : List Int → List (List Int) → Prop) (v0 v1 v2 : Int) : qP1_t.dn ⟨Q, []⟩ 3 [v2, v1, v0] 0 [] = (∀ v3 : Int, v3 = bitDen .andNot .i64 v2 (3 : Int) → ∀ v4 : Int, v4 = b2i (v3 == (0 : Int)) → ∀ v5 : Int, v5 = b2i (v4 == 0) → (v5 ≠ 0 → False) ∧
(v5 = 0 → Q [] [])) := by kernel_rfl
set_option maxHeartbeats 4000000 in
theorem qP1_holds : (L2.qP1).Holds Tryz.prog L2.ro := FSpec.holdsV (cfg := L2.cfg Tryz.prog) [] 20 200 cfg_ok mixed (t := qP1_t) qP1_tree (by
  show ∀ (v0 v1 v2 : Int) , _
  intro v0 v1 v2  hp hr hl
  replace hr : (((2) : Int) ≤ v0 ∧ v0 ≤ ((9223372036854775807) : Int)) ∧ (((1) : Int) ≤ v1 ∧ v1 ≤ ((9223372036854775807) : Int)) ∧ (((1) : Int) ≤ v2 ∧ v2 ≤ ((3) : Int)) ∧ True := hr
  replace hl : True := hl
  show qP1_t.dn ⟨_, []⟩ 3 [v2, v1, v0] 0 []
  rw [qP1_vc]
  have b := andNot3 (a := v2) (b := 3) (by omega) (by omega) (by omega) (by omega)
  repeat' first | refine And.intro ?_ ?_ | intro _
  all_goals first | trivial | grind [b2i])
noncomputable def qP2_t : Tree := .letI (.bit .andNot .i64 (.v 2) (.v 2)) (.letI (.cmp .eql (.v 3) (.c 0)) (.letI (.not (.v 4)) (.ite (.v 5) (.fail 180) (.letI (.add (.c 32784) (.v 2)) (.done [] [])))))
theorem qP2_tree : (L2.qP2).exe Tryz.prog (L2.cfg Tryz.prog) [] 20 200 = qP2_t := by kernel_rfl
theorem qP2_vc (Q : List Int → List (List Int) → Prop) (v0 v1 v2 : Int) : qP2_t.dn ⟨Q, []⟩ 3 [v2, v1, v0] 0 [] = (∀ v3 : Int, v3 = bitDen .andNot .i64 v2 v2 → ∀ v4 : Int, v4 = b2i (v3 == (0 : Int)) → ∀ v5 : Int, v5 = b2i (v4 == 0) → (v5 ≠ 0 → False) ∧
(v5 = 0 → ∀ v6 : Int, v6 = (32784 : Int) + v2 → Q [] [])) := by kernel_rfl
set_option maxHeartbeats 4000000 in
theorem qP2_holds : (L2.qP2).Holds Tryz.prog L2.ro := FSpec.holdsV (cfg := L2.cfg Tryz.prog) [] 20 200 cfg_ok mixed (t := qP2_t) qP2_tree (by
  show ∀ (v0 v1 v2 : Int) , _
  intro v0 v1 v2  hp hr hl
  replace hr : (((2) : Int) ≤ v0 ∧ v0 ≤ ((9223372036854775807) : Int)) ∧ (((1) : Int) ≤ v1 ∧ v1 ≤ ((9223372036854775807) : Int)) ∧ (((1) : Int) ≤ v2 ∧ v2 ≤ ((3) : Int)) ∧ True := hr
  replace hl : True := hl
  show qP2_t.dn ⟨_, []⟩ 3 [v2, v1, v0] 0 []
  rw [qP2_vc]
  have b := andNot3 (a := v2) (b := v2) (by omega) (by omega) (by omega) (by omega)
  repeat' first | refine And.intro ?_ ?_ | intro _
  all_goals first | trivial | grind [b2i])
noncomputable def qP3_t : Tree := .letI (.cmp .lss (.v 4) (.c 1)) (.ite (.v 7) (.done [.c (2), .v 3] []) (.both (.letI (.bit .andNot .i64 (.v 4) (.v 2)) (.letI (.cmp .eql (.v 8) (.c 0)) (.letI (.not (.v 9)) (.ite (.v 10) (.done [.c (5), .v 3] []) (.done [.c (0), .v 4] []))))) (.letI (.bit .andNot .i64 (.v 4) (.v 2)) (.letI (.cmp .eql (.v 8) (.c 0)) (.letI (.not (.v 9)) (.ite (.v 10) (.done [.c (5), .v 3] []) (.done [.c (0), .v 4] [])))))))
theorem qP3_tree : (L2.qP3).exe Tryz.prog (L2.cfg Tryz.prog) [] 20 200 = qP3_t := by kernel_rfl
theorem qP3_vc (Q : List Int → List (List Int) → Prop) (v0 v1 v2 v3 v4 v5 v6 : Int) : qP3_t.dn ⟨Q, []⟩ 7 [v6, v5, v4, v3, v2, v1, v0] 0 [] = (((v4 < (1 : Int)) → Q [(2 : Int), v3] []) ∧
(((1 : Int) ≤ v4) → (∀ v8 : Int, v8 = bitDen .andNot .i64 v4 v2 → ∀ v9 : Int, v9 = b2i (v8 == (0 : Int)) → ∀ v10 : Int, v10 = b2i (v9 == 0) → (v10 ≠ 0 → Q [(5 : Int), v3] []) ∧
(v10 = 0 → Q [(0 : Int), v4] [])) ∧
(∀ v8 : Int, v8 = bitDen .andNot .i64 v4 v2 → ∀ v9 : Int, v9 = b2i (v8 == (0 : Int)) → ∀ v10 : Int, v10 = b2i (v9 == 0) → (v10 ≠ 0 → Q [(5 : Int), v3] []) ∧
(v10 = 0 → Q [(0 : Int), v4] [])))) := by kernel_rfl
set_option maxHeartbeats 4000000 in
theorem qP3_holds : (L2.qP3).Holds Tryz.prog L2.ro := FSpec.holdsV (cfg := L2.cfg Tryz.prog) [] 20 200 cfg_ok mixed (t := qP3_t) qP3_tree (by
  show ∀ (v0 v1 v2 v3 v4 v5 v6 : Int) , _
  intro v0 v1 v2 v3 v4 v5 v6  hp hr hl
  replace hr : (((2) : Int) ≤ v0 ∧ v0 ≤ ((9223372036854775807) : Int)) ∧ (((1) : Int) ≤ v1 ∧ v1 ≤ ((9223372036854775807) : Int)) ∧ (((1) : Int) ≤ v2 ∧ v2 ≤ ((3) : Int)) ∧ (((1) : Int) ≤ v3 ∧ v3 ≤ ((3) : Int)) ∧ (((0) : Int) ≤ v4 ∧ v4 ≤ ((3) : Int)) ∧ (((0) : Int) ≤ v5 ∧ v5 ≤ ((0) : Int)) ∧ (((0) : Int) ≤ v6 ∧ v6 ≤ ((0) : Int)) ∧ True := hr
  replace hl : True := hl
  show qP3_t.dn ⟨_, []⟩ 7 [v6, v5, v4, v3, v2, v1, v0] 0 []
  rw [qP3_vc]
  have b : 1 ≤ v4 → (bitDen .andNot .i64 v4 v2 = 0 ↔ v4 = v2 ∨ v2 = 3) := fun h => andNot3 h (by omega) (by omega) (by omega)
  repeat' first | refine And.intro ?_ ?_ | intro _
  all_goals first | rfl | (show [_, _] = [protE v2 v4, protN v2 v3 v4]; grind [protE, protN, b2i]))
noncomputable def qP4_t : Tree := .both (.letI (.bit .andNot .i64 (.c 1) (.v 3)) (.letI (.cmp .eql (.v 6) (.c 0)) (.letI (.not (.v 7)) (.ite (.v 8) (.done [.c (7)] []) (.done [.c (0)] []))))) (.letI (.bit .andNot .i64 (.c 1) (.v 3)) (.letI (.cmp .eql (.v 6) (.c 0)) (.letI (.not (.v 7)) (.ite (.v 8) (.done [.c (7)] []) (.done [.c (0)] [])))))
theorem qP4_tree : (L2.qP4).exe Tryz.prog (L2.cfg Tryz.prog) [] 20 200 = qP4_t := by kernel_rfl
theorem qP4_vc (Q : List Int → List (List Int) → Prop) (v0 v1 v2 v3 v4 v5 : Int) : qP4_t.dn ⟨Q, []⟩ 6 [v5, v4, v3, v2, v1, v0] 0 [] = ((∀ v6 : Int, v6 = bitDen .andNot .i64 (1 : Int) v3 → ∀ v7 : Int, v7 = b2i (v6 == (0 : Int)) → ∀ v8 : Int, v8 = b2i (v7 == 0) → (v8 ≠ 0 → Q [(7 : Int)] []) ∧
(v8 = 0 → Q [(0 : Int)] [])) ∧
(∀ v6 : Int, v6 = bitDen .andNot .i64 (1 : Int) v3 → ∀ v7 : Int, v7 = b2i (v6 == (0 : Int)) → ∀ v8 : Int, v8 = b2i (v7 == 0) → (v8 ≠ 0 → Q [(7 : Int)] []) ∧
(v8 = 0 → Q [(0 : Int)] []))) := by kernel_rfl
set_option maxHeartbeats 4000000 in
theorem qP4_holds : (L2.qP4).Holds Tryz.prog L2.ro := FSpec.holdsV (cfg := L2.cfg Tryz.prog) [] 20 200 cfg_ok mixed (t := qP4_t) qP4_tree (by
  show ∀ (v0 v1 v2 v3 v4 v5 : Int) , _
  intro v0 v1 v2 v3 v4 v5  hp hr hl
  replace hr : (((2) : Int) ≤ v0 ∧ v0 ≤ ((9223372036854775807) : Int)) ∧ (((1) : Int) ≤ v1 ∧ v1 ≤ ((9223372036854775807) : Int)) ∧ (((1) : Int) ≤ v2 ∧ v2 ≤ ((3) : Int)) ∧ (((1) : Int) ≤ v3 ∧ v3 ≤ ((3) : Int)) ∧ (((0) : Int) ≤ v4 ∧ v4 ≤ ((0) : Int)) ∧ (((0) : Int) ≤ v5 ∧ v5 ≤ ((0) : Int)) ∧ True := hr
  replace hl : True := hl
  show qP4_t.dn ⟨_, []⟩ 6 [v5, v4, v3, v2, v1, v0] 0 []
  rw [qP4_vc]
  have b := andNot3 (a := 1) (b := v3) (by omega) (by omega) (by omega) (by omega)
  repeat' first | refine And.intro ?_ ?_ | intro _
  all_goals first | rfl | (show [_] = [if letsB v3 20 then 0 else 7]; grind [letsB, b2i]))
noncomputable def qP5_t : Tree := .both (.letI (.bit .andNot .i64 (.c 2) (.v 3)) (.letI (.cmp .eql (.v 5) (.c 0)) (.letI (.not (.v 6)) (.ite (.v 7) (.done [.c (7)] []) (.done [.c (0)] []))))) (.letI (.bit .andNot .i64 (.c 2) (.v 3)) (.letI (.cmp .eql (.v 5) (.c 0)) (.letI (.not (.v 6)) (.ite (.v 7) (.done [.c (7)] []) (.done [.c (0)] [])))))
theorem qP5_tree : (L2.qP5).exe Tryz.prog (L2.cfg Tryz.prog) [] 20 200 = qP5_t := by kernel_rfl
theorem qP5_vc (Q : List Int → List (List Int) → Prop) (v0 v1 v2 v3 v4 : Int) : qP5_t.dn ⟨Q, []⟩ 5 [v4, v3, v2, v1, v0] 0 [] = ((∀ v5 : Int, v5 = bitDen .andNot .i64 (2 : Int) v3 → ∀ v6 : Int, v6 = b2i (v5 == (0 : Int)) → ∀ v7 : Int, v7 = b2i (v6 == 0) → (v7 ≠ 0 → Q [(7 : Int)] []) ∧
(v7 = 0 → Q [(0 : Int)] [])) ∧
(∀ v5 : Int, v5 = bitDen .andNot .i64 (2 : Int) v3 → ∀ v6 : Int, v6 = b2i (v5 == (0 : Int)) → ∀ v7 : Int, v7 = b2i (v6 == 0) → (v7 ≠ 0 → Q [(7 : Int)] []) ∧
(v7 = 0 → Q [(0 : Int)] []))) := by kernel_rfl
set_option maxHeartbeats 4000000 in
theorem qP5_holds : (L2.qP5).Holds Tryz.prog L2.ro := FSpec.holdsV (cfg := L2.cfg Tryz.prog) [] 20 200 cfg_ok mixed (t := qP5_t) qP5_tree (by
  show ∀ (v0 v1 v2 v3 v4 : Int) , _
  intro v0 v1 v2 v3 v4  hp hr hl
  replace hr : (((2) : Int) ≤ v0 ∧ v0 ≤ ((9223372036854775807) : Int)) ∧ (((1) : Int) ≤ v1 ∧ v1 ≤ ((9223372036854775807) : Int)) ∧ (((1) : Int) ≤ v2 ∧ v2 ≤ ((3) : Int)) ∧ (((1) : Int) ≤ v3 ∧ v3 ≤ ((3) : Int)) ∧ (((0) : Int) ≤ v4 ∧ v4 ≤ ((0) : Int)) ∧ True := hr
  replace hl : True := hl
  show qP5_t.dn ⟨_, []⟩ 5 [v4, v3, v2, v1, v0] 0 []
  rw [qP5_vc]
  have b := andNot3 (a := 2) (b := v3) (by omega) (by omega) (by omega) (by omega)
  repeat' first | refine And.intro ?_ ?_ | intro _
  all_goals first | rfl | (show [_] = [if letsB v3 21 then 0 else 7]; grind [letsB, b2i]))
noncomputable def qP6_t : Tree := .both (.letI (.bit .andNot .i64 (.c 3) (.v 3)) (.letI (.cmp .eql (.v 4) (.c 0)) (.letI (.not (.v 5)) (.ite (.v 6) (.done [.c (7)] []) (.done [.c (0)] []))))) (.letI (.bit .andNot .i64 (.c 3) (.v 3)) (.letI (.cmp .eql (.v 4) (.c 0)) (.letI (.not (.v 5)) (.ite (.v 6) (.done [.c (7)] []) (.done [.c (0)] [])))))
theorem qP6_tree : (L2.qP6).exe Tryz.prog (L2.cfg Tryz.prog) [] 20 200 = qP6_t := by kernel_rfl
theorem qP6_vc (Q : List Int → List (List Int) → Prop) (v0 v1 v2 v3 : Int) : qP6_t.dn ⟨Q, []⟩ 4 [v3, v2, v1, v0] 0 [] = ((∀ v4 : Int, v4 = bitDen .andNot .i64 (3 : Int) v3 → ∀ v5 : Int, v5 = b2i (v4 == (0 : Int)) → ∀ v6 : Int, v6 = b2i (v5 == 0) → (v6 ≠ 0 → Q [(7 : Int)] []) ∧
(v6 = 0 → Q [(0 : Int)] [])) ∧
(∀ v4 : Int, v4 = bitDen .andNot .i64 (3 : Int) v3 → ∀ v5 : Int, v5 = b2i (v4 == (0 : Int)) → ∀ v6 : Int, v6 = b2i (v5 == 0) → (v6 ≠ 0 → Q [(7 : Int)] []) ∧
(v6 = 0 → Q [(0 : Int)] []))) := by kernel_rfl
set_option maxHeartbeats 4000000 in
theorem qP6_holds : (L2.qP6).Holds Tryz.prog L2.ro := FSpec.holdsV (cfg := L2.cfg Tryz.prog) [] 20 200 cfg_ok mixed (t := qP6_t) qP6_tree (by
  show ∀ (v0 v1 v2 v3 : Int) , _
  intro v0 v1 v2 v3  hp hr hl
  replace hr : (((2) : Int) ≤ v0 ∧ v0 ≤ ((9223372036854775807) : Int)) ∧ (((1) : Int) ≤ v1 ∧ v1 ≤ ((9223372036854775807) : Int)) ∧ (((1) : Int) ≤ v2 ∧ v2 ≤ ((3) : Int)) ∧ (((1) : Int) ≤ v3 ∧ v3 ≤ ((3) : Int)) ∧ True := hr
  replace hl : True := hl
  show qP6_t.dn ⟨_, []⟩ 4 [v3, v2, v1, v0] 0 []
  rw [qP6_vc]
  have b := andNot3 (a := 3) (b := v3) (by omega) (by omega) (by omega) (by omega)
  repeat' first | refine And.intro ?_ ?_ | intro _
  all_goals first | rfl | (show [_] = [if letsB v3 23 then 0 else 7]; grind [letsB, b2i]))
end Go.Proofs.YtbpilohnhhbbpaaGreatDoor
