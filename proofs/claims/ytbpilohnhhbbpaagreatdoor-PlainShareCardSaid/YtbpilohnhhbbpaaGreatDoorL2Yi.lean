/- Contracts: calls of PlainShare. -/
import Derived.Test.YtbpilohnhhbbpaaGreatDoorL2Facts
import Derived.Test.YtbpilohnhhbbpaaGreatDoorSxM7
import Derived.Test.YtbpilohnhhbbpaaGreatDoorL2Y
set_option linter.unusedVariables false
set_option linter.constructorNameAsVariable false
set_option linter.unusedSimpArgs false
open Go Go.Sx
namespace Go.Proofs.YtbpilohnhhbbpaaGreatDoor
set_option maxRecDepth 100000
noncomputable def qH7_t : Tree := .letI (.wr .i64 (.v 4)) (.both (.letI (.bit .andNot .i64 (.c 2) (.v 2)) (.letI (.cmp .eql (.v 7) (.c 0)) (.letI (.not (.v 8)) (.ite (.v 9) (.done [.c (7)] [0]) (.letL (.set 0 (.v 3) (.v 4)) (.done [.c (0)] [1])))))) (.letI (.bit .andNot .i64 (.c 2) (.v 2)) (.letI (.cmp .eql (.v 7) (.c 0)) (.letI (.not (.v 8)) (.ite (.v 9) (.done [.c (7)] [0]) (.letL (.set 0 (.v 3) (.v 4)) (.done [.c (0)] [1])))))))
theorem qH7_tree : (L2.qH7).exe Tryz.prog (L2.cfg Tryz.prog) [] 20 200 = qH7_t := by kernel_rfl
theorem qH7_vc (Q : List Int → List (List Int) → Prop) (v0 v1 v2 v3 v4 v5 : Int) (L0 : List Int) : qH7_t.dn ⟨Q, []⟩ 6 [v5, v4, v3, v2, v1, v0] 1 [L0] = (∀ v6 : Int, v6 = IntKind.wrap .i64 v4 → (∀ v7 : Int, v7 = bitDen .andNot .i64 (2 : Int) v2 → ∀ v8 : Int, v8 = b2i (v7 == (0 : Int)) → ∀ v9 : Int, v9 = b2i (v8 == 0) → (v9 ≠ 0 → Q [(7 : Int)] [L0]) ∧
(v9 = 0 → ∀ L1 : List Int, L1 = (L0).set (v3).toNat v4 → Q [(0 : Int)] [L1])) ∧
(∀ v7 : Int, v7 = bitDen .andNot .i64 (2 : Int) v2 → ∀ v8 : Int, v8 = b2i (v7 == (0 : Int)) → ∀ v9 : Int, v9 = b2i (v8 == 0) → (v9 ≠ 0 → Q [(7 : Int)] [L0]) ∧
(v9 = 0 → ∀ L1 : List Int, L1 = (L0).set (v3).toNat v4 → Q [(0 : Int)] [L1]))) := by kernel_rfl
set_option maxHeartbeats 4000000 in
theorem qH7_holds : (L2.qH7).Holds Tryz.prog L2.ro := FSpec.holdsV (cfg := L2.cfg Tryz.prog) [] 20 200 cfg_ok mixed (t := qH7_t) qH7_tree (by
  show ∀ (v0 v1 v2 v3 v4 v5 : Int) (L0 : List Int), _
  intro v0 v1 v2 v3 v4 v5 L0 hp hr hl
  replace hr : (((2) : Int) ≤ v0 ∧ v0 ≤ ((9223372036854775807) : Int)) ∧ (((2) : Int) ≤ v1 ∧ v1 ≤ ((9223372036854775807) : Int)) ∧ (((1) : Int) ≤ v2 ∧ v2 ≤ ((3) : Int)) ∧ (((0) : Int) ≤ v3 ∧ v3 ≤ ((15) : Int)) ∧ (((0) : Int) ≤ v4 ∧ v4 ≤ ((18446744073709551615) : Int)) ∧ (((0) : Int) ≤ v5 ∧ v5 ≤ ((0) : Int)) ∧ True := hr
  replace hl : (∀ x ∈ L0, (((0) : Int) ≤ x ∧ x ≤ ((18446744073709551615) : Int))) ∧ True := hl
  show qH7_t.dn ⟨_, []⟩ 6 [v5, v4, v3, v2, v1, v0] 1 [L0]
  rw [qH7_vc]
  have b := andNot3 (a := 2) (b := v2) (by omega) (by omega) (by omega) (by omega)
  repeat' first | refine And.intro ?_ ?_ | intro _
  all_goals first | rfl | (show [_] = [if letsB v2 21 then (0 : Int) else 7]; grind [letsB, b2i]) | (show [_] = [if letsB v2 21 then L0.set v3.toNat v4 else L0]; grind [letsB, b2i]))
noncomputable def qH8_t : Tree := .both (.letI (.get 0 (.v 3)) (.done [.v 4] [])) (.letI (.get 0 (.v 3)) (.done [.v 4] []))
theorem qH8_tree : (L2.qH8).exe Tryz.prog (L2.cfg Tryz.prog) [] 20 200 = qH8_t := by kernel_rfl
theorem qH8_vc (Q : List Int → List (List Int) → Prop) (v0 v1 v2 v3 : Int) (L0 L1 : List Int) : qH8_t.dn ⟨Q, []⟩ 4 [v3, v2, v1, v0] 2 [L1, L0] = ((∀ v4 : Int, v4 = (L0).getD (v3).toNat 0 → Q [v4] []) ∧
(∀ v4 : Int, v4 = (L0).getD (v3).toNat 0 → Q [v4] [])) := by kernel_rfl
set_option maxHeartbeats 4000000 in
theorem qH8_holds : (L2.qH8).Holds Tryz.prog L2.ro := FSpec.holdsV (cfg := L2.cfg Tryz.prog) [] 20 200 cfg_ok mixed (t := qH8_t) qH8_tree (by
  show ∀ (v0 v1 v2 v3 : Int) (L0 L1 : List Int), _
  intro v0 v1 v2 v3 L0 L1 hp hr hl
  replace hr : (((2) : Int) ≤ v0 ∧ v0 ≤ ((9223372036854775807) : Int)) ∧ (((2) : Int) ≤ v1 ∧ v1 ≤ ((9223372036854775807) : Int)) ∧ (((1) : Int) ≤ v2 ∧ v2 ≤ ((3) : Int)) ∧ (((0) : Int) ≤ v3 ∧ v3 ≤ ((15) : Int)) ∧ True := hr
  replace hl : (∀ x ∈ L0, (((0) : Int) ≤ x ∧ x ≤ ((18446744073709551615) : Int))) ∧ (∀ x ∈ L1, (((0) : Int) ≤ x ∧ x ≤ ((18446744073709551615) : Int))) ∧ True := hl
  show qH8_t.dn ⟨_, []⟩ 4 [v3, v2, v1, v0] 2 [L1, L0]
  rw [qH8_vc]
  repeat' first | refine And.intro ?_ ?_ | intro _
  all_goals first | rfl | (show [_] = [L0.getD v3.toNat 0]; grind))
noncomputable def qH9_t : Tree := .any (.c 1) (.c 9223372036854775807) (.letI (.mul (.v 3) (.c 2)) (.any (.c 1) (.c 9223372036854775807) (.done [] [])))
theorem qH9_tree : (L2.qH9).exe Tryz.prog (L2.cfg Tryz.prog) [] 20 200 = qH9_t := by kernel_rfl
theorem qH9_vc (Q : List Int → List (List Int) → Prop) (v0 v1 v2 : Int) (L0 L1 : List Int) : qH9_t.dn ⟨Q, []⟩ 3 [v2, v1, v0] 2 [L1, L0] = (∀ v3 : Int, (1 : Int) ≤ v3 → v3 ≤ (9223372036854775807 : Int) → ∀ v4 : Int, v4 = v3 * (2 : Int) → ∀ v5 : Int, (1 : Int) ≤ v5 → v5 ≤ (9223372036854775807 : Int) → Q [] []) := by kernel_rfl
set_option maxHeartbeats 4000000 in
theorem qH9_holds : (L2.qH9).Holds Tryz.prog L2.ro := FSpec.holdsV (cfg := L2.cfg Tryz.prog) [] 20 200 cfg_ok mixed (t := qH9_t) qH9_tree (by
  show ∀ (v0 v1 v2 : Int) (L0 L1 : List Int), _
  intro v0 v1 v2 L0 L1 hp hr hl
  replace hr : (((2) : Int) ≤ v0 ∧ v0 ≤ ((9223372036854775807) : Int)) ∧ (((2) : Int) ≤ v1 ∧ v1 ≤ ((9223372036854775807) : Int)) ∧ (((1) : Int) ≤ v2 ∧ v2 ≤ ((3) : Int)) ∧ True := hr
  replace hl : (∀ x ∈ L0, (((0) : Int) ≤ x ∧ x ≤ ((18446744073709551615) : Int))) ∧ (∀ x ∈ L1, (((0) : Int) ≤ x ∧ x ≤ ((18446744073709551615) : Int))) ∧ True := hl
  show qH9_t.dn ⟨_, []⟩ 3 [v2, v1, v0] 2 [L1, L0]
  rw [qH9_vc]
  repeat' first | refine And.intro ?_ ?_ | intro _
  all_goals trivial)
noncomputable def qH10_t : Tree := .both (.done [] []) (.done [] [])
theorem qH10_tree : (L2.qH10).exe Tryz.prog (L2.cfg Tryz.prog) [] 20 200 = qH10_t := by kernel_rfl
theorem qH10_vc (Q : List Int → List (List Int) → Prop) (v0 v1 v2 : Int) (L0 L1 : List Int) : qH10_t.dn ⟨Q, []⟩ 3 [v2, v1, v0] 2 [L1, L0] = ((Q [] []) ∧
(Q [] [])) := by kernel_rfl
set_option maxHeartbeats 4000000 in
theorem qH10_holds : (L2.qH10).Holds Tryz.prog L2.ro := FSpec.holdsV (cfg := L2.cfg Tryz.prog) [] 20 200 cfg_ok mixed (t := qH10_t) qH10_tree (by
  show ∀ (v0 v1 v2 : Int) (L0 L1 : List Int), _
  intro v0 v1 v2 L0 L1 hp hr hl
  replace hr : (((2) : Int) ≤ v0 ∧ v0 ≤ ((9223372036854775807) : Int)) ∧ (((2) : Int) ≤ v1 ∧ v1 ≤ ((9223372036854775807) : Int)) ∧ (((0) : Int) ≤ v2 ∧ v2 ≤ ((15) : Int)) ∧ True := hr
  replace hl : (∀ x ∈ L0, (((0) : Int) ≤ x ∧ x ≤ ((18446744073709551615) : Int))) ∧ (∀ x ∈ L1, (((0) : Int) ≤ x ∧ x ≤ ((18446744073709551615) : Int))) ∧ True := hl
  show qH10_t.dn ⟨_, []⟩ 3 [v2, v1, v0] 2 [L1, L0]
  rw [qH10_vc]
  repeat' first | refine And.intro ?_ ?_ | intro _
  all_goals trivial)
noncomputable def qH11_t : Tree := .both (.letI (.get 0 (.v 2)) (.done [.v 5] [])) (.letI (.get 0 (.v 2)) (.done [.v 5] []))
theorem qH11_tree : (L2.qH11).exe Tryz.prog (L2.cfg Tryz.prog) [] 20 200 = qH11_t := by kernel_rfl
theorem qH11_vc (Q : List Int → List (List Int) → Prop) (v0 v1 v2 v3 v4 : Int) (L0 L1 : List Int) : qH11_t.dn ⟨Q, []⟩ 5 [v4, v3, v2, v1, v0] 2 [L1, L0] = ((∀ v5 : Int, v5 = (L0).getD (v2).toNat 0 → Q [v5] []) ∧
(∀ v5 : Int, v5 = (L0).getD (v2).toNat 0 → Q [v5] [])) := by kernel_rfl
set_option maxHeartbeats 4000000 in
theorem qH11_holds : (L2.qH11).Holds Tryz.prog L2.ro := FSpec.holdsV (cfg := L2.cfg Tryz.prog) [] 20 200 cfg_ok mixed (t := qH11_t) qH11_tree (by
  show ∀ (v0 v1 v2 v3 v4 : Int) (L0 L1 : List Int), _
  intro v0 v1 v2 v3 v4 L0 L1 hp hr hl
  replace hr : (((2) : Int) ≤ v0 ∧ v0 ≤ ((9223372036854775807) : Int)) ∧ (((2) : Int) ≤ v1 ∧ v1 ≤ ((9223372036854775807) : Int)) ∧ (((0) : Int) ≤ v2 ∧ v2 ≤ ((15) : Int)) ∧ (((0) : Int) ≤ v3 ∧ v3 ≤ ((0) : Int)) ∧ (((0) : Int) ≤ v4 ∧ v4 ≤ ((0) : Int)) ∧ True := hr
  replace hl : (∀ x ∈ L0, (((0) : Int) ≤ x ∧ x ≤ ((18446744073709551615) : Int))) ∧ (∀ x ∈ L1, (((0) : Int) ≤ x ∧ x ≤ ((18446744073709551615) : Int))) ∧ True := hl
  show qH11_t.dn ⟨_, []⟩ 5 [v4, v3, v2, v1, v0] 2 [L1, L0]
  rw [qH11_vc]
  repeat' first | refine And.intro ?_ ?_ | intro _
  all_goals first | rfl | (show [_] = [L0.getD v2.toNat 0]; grind))
end Go.Proofs.YtbpilohnhhbbpaaGreatDoor
