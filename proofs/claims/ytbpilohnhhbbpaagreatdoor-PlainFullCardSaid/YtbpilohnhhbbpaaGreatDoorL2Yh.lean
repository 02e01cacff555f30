/- Contracts: calls of PlainShare. -/
import Derived.Test.YtbpilohnhhbbpaaGreatDoorL2Facts
import Derived.Test.YtbpilohnhhbbpaaGreatDoorSxM7
import Derived.Test.YtbpilohnhhbbpaaGreatDoorL2Y
set_option linter.unusedVariables false
set_option linter.constructorNameAsVariable false
set_option linter.unusedSimpArgs false
open Go Go.Sx
namespace Go.Proofs.YtbpilohnhhbbpaaGreatDoor
set_option maxRecDepth 100000
noncomputable def qH1_t : Tree := .done [] []
theorem qH1_tree : (L2.qH1).exe Tryz.prog (L2.cfg Tryz.prog) [] 20 200 = qH1_t := by kernel_rfl
theorem qH1_vc (Q : List Int → List (List Int) → Prop) (v0 v1 : Int) : qH1_t.dn ⟨Q, []⟩ 2 [v1, v0] 0 [] = (Q [] []) := by kernel_rfl
set_option maxHeartbeats 4000000 in
theorem qH1_holds : (L2.qH1).Holds Tryz.prog L2.ro := FSpec.holdsV (cfg := L2.cfg Tryz.prog) [] 20 200 cfg_ok mixed (t := qH1_t) qH1_tree (by
  show ∀ (v0 v1 : Int) , _
  intro v0 v1  hp hr hl
  replace hr : (((2) : Int) ≤ v0 ∧ v0 ≤ ((9223372036854775807) : Int)) ∧ (((2) : Int) ≤ v1 ∧ v1 ≤ ((9223372036854775807) : Int)) ∧ True := hr
  replace hl : True := hl
  show qH1_t.dn ⟨_, []⟩ 2 [v1, v0] 0 []
  rw [qH1_vc]
  repeat' first | refine And.intro ?_ ?_ | intro _
  all_goals trivial)
noncomputable def qH2_t : Tree := .done [] []
theorem qH2_tree : (L2.qH2).exe Tryz.prog (L2.cfg Tryz.prog) [] 20 200 = qH2_t := by kernel_rfl
theorem qH2_vc (Q : List Int → List (List Int) → Prop) (v0 v1 : Int) : qH2_t.dn ⟨Q, []⟩ 2 [v1, v0] 0 [] = (Q [] []) := by kernel_rfl
set_option maxHeartbeats 4000000 in
theorem qH2_holds : (L2.qH2).Holds Tryz.prog L2.ro := FSpec.holdsV (cfg := L2.cfg Tryz.prog) [] 20 200 cfg_ok mixed (t := qH2_t) qH2_tree (by
  show ∀ (v0 v1 : Int) , _
  intro v0 v1  hp hr hl
  replace hr : (((2) : Int) ≤ v0 ∧ v0 ≤ ((9223372036854775807) : Int)) ∧ (((2) : Int) ≤ v1 ∧ v1 ≤ ((9223372036854775807) : Int)) ∧ True := hr
  replace hl : True := hl
  show qH2_t.dn ⟨_, []⟩ 2 [v1, v0] 0 []
  rw [qH2_vc]
  repeat' first | refine And.intro ?_ ?_ | intro _
  all_goals trivial)
noncomputable def qH3_t : Tree := .letI (.bit .andNot .i64 (.v 2) (.c 3)) (.letI (.cmp .eql (.v 3) (.c 0)) (.letI (.not (.v 4)) (.ite (.v 5) (.fail 180) (.done [] []))))
theorem qH3_tree : (L2.qH3).exe Tryz.prog (L2.cfg Tryz.prog) [] 20 200 = qH3_t := by kernel_rfl
theorem qH3_vc (Q : List Int → List (List Int) → Prop) (v0 v1 v2 : Int) : qH3_t.dn ⟨Q, []⟩ 3 [v2, v1, v0] 0 [] = (∀ v3 : Int, v3 = bitDen .andNot .i64 v2 (3 : Int) → ∀ v4 : Int, v4 = b2i (v3 == (0 : Int)) → ∀ v5 : Int, v5 = b2i (v4 == 0) → (v5 ≠ 0 → False) ∧
(v5 = 0 → Q [] [])) := by kernel_rfl
set_option maxHeartbeats 4000000 in
theorem qH3_holds : (L2.qH3).Holds Tryz.prog L2.ro := FSpec.holdsV (cfg := L2.cfg Tryz.prog) [] 20 200 cfg_ok mixed (t := qH3_t) qH3_tree (by
  show ∀ (v0 v1 v2 : Int) , _
  intro v0 v1 v2  hp hr hl
  replace hr : (((2) : Int) ≤ v0 ∧ v0 ≤ ((9223372036854775807) : Int)) ∧ (((2) : Int) ≤ v1 ∧ v1 ≤ ((9223372036854775807) : Int)) ∧ (((1) : Int) ≤ v2 ∧ v2 ≤ ((3) : Int)) ∧ True := hr
  replace hl : True := hl
  show qH3_t.dn ⟨_, []⟩ 3 [v2, v1, v0] 0 []
  rw [qH3_vc]
  have b := andNot3 (a := v2) (b := 3) (by omega) (by omega) (by omega) (by omega)
  repeat' first | refine And.intro ?_ ?_ | intro _
  all_goals first | trivial | grind [b2i])
noncomputable def qH4_t : Tree := .letI (.bit .andNot .i64 (.v 2) (.v 2)) (.letI (.cmp .eql (.v 3) (.c 0)) (.letI (.not (.v 4)) (.ite (.v 5) (.fail 180) (.letI (.add (.c 32848) (.v 2)) (.done [] [])))))
theorem qH4_tree : (L2.qH4).exe Tryz.prog (L2.cfg Tryz.prog) [] 20 200 = qH4_t := by kernel_rfl
theorem qH4_vc (Q : List Int → List (List Int) → Prop) (v0 v1 v2 : Int) : qH4_t.dn ⟨Q, []⟩ 3 [v2, v1, v0] 0 [] = (∀ v3 : Int, v3 = bitDen .andNot .i64 v2 v2 → ∀ v4 : Int, v4 = b2i (v3 == (0 : Int)) → ∀ v5 : Int, v5 = b2i (v4 == 0) → (v5 ≠ 0 → False) ∧
(v5 = 0 → ∀ v6 : Int, v6 = (32848 : Int) + v2 → Q [] [])) := by kernel_rfl
set_option maxHeartbeats 4000000 in
theorem qH4_holds : (L2.qH4).Holds Tryz.prog L2.ro := FSpec.holdsV (cfg := L2.cfg Tryz.prog) [] 20 200 cfg_ok mixed (t := qH4_t) qH4_tree (by
  show ∀ (v0 v1 v2 : Int) , _
  intro v0 v1 v2  hp hr hl
  replace hr : (((2) : Int) ≤ v0 ∧ v0 ≤ ((9223372036854775807) : Int)) ∧ (((2) : Int) ≤ v1 ∧ v1 ≤ ((9223372036854775807) : Int)) ∧ (((1) : Int) ≤ v2 ∧ v2 ≤ ((3) : Int)) ∧ True := hr
  replace hl : True := hl
  show qH4_t.dn ⟨_, []⟩ 3 [v2, v1, v0] 0 []
  rw [qH4_vc]
  have b := andNot3 (a := v2) (b := v2) (by omega) (by omega) (by omega) (by omega)
  repeat' first | refine And.intro ?_ ?_ | intro _
  all_goals first | trivial | grind [b2i])
noncomputable def qH5_t : Tree := .letI (.wr .i64 (.v 4)) (.both (.letL (.set 0 (.v 3) (.v 4)) (.done [] [1])) (.letL (.set 0 (.v 3) (.v 4)) (.done [] [1])))
theorem qH5_tree : (L2.qH5).exe Tryz.prog (L2.cfg Tryz.prog) [] 20 200 = qH5_t := by kernel_rfl
theorem qH5_vc (Q : List Int → List (List Int) → Prop) (v0 v1 v2 v3 v4 : Int) (L0 : List Int) : qH5_t.dn ⟨Q, []⟩ 5 [v4, v3, v2, v1, v0] 1 [L0] = (∀ v5 : Int, v5 = IntKind.wrap .i64 v4 → (∀ L1 : List Int, L1 = (L0).set (v3).toNat v4 → Q [] [L1]) ∧
(∀ L1 : List Int, L1 = (L0).set (v3).toNat v4 → Q [] [L1])) := by kernel_rfl
set_option maxHeartbeats 4000000 in
theorem qH5_holds : (L2.qH5).Holds Tryz.prog L2.ro := FSpec.holdsV (cfg := L2.cfg Tryz.prog) [] 20 200 cfg_ok mixed (t := qH5_t) qH5_tree (by
  show ∀ (v0 v1 v2 v3 v4 : Int) (L0 : List Int), _
  intro v0 v1 v2 v3 v4 L0 hp hr hl
  replace hr : (((2) : Int) ≤ v0 ∧ v0 ≤ ((9223372036854775807) : Int)) ∧ (((2) : Int) ≤ v1 ∧ v1 ≤ ((9223372036854775807) : Int)) ∧ (((1) : Int) ≤ v2 ∧ v2 ≤ ((3) : Int)) ∧ (((0) : Int) ≤ v3 ∧ v3 ≤ ((15) : Int)) ∧ (((0) : Int) ≤ v4 ∧ v4 ≤ ((18446744073709551615) : Int)) ∧ True := hr
  replace hl : (∀ x ∈ L0, (((0) : Int) ≤ x ∧ x ≤ ((18446744073709551615) : Int))) ∧ True := hl
  show qH5_t.dn ⟨_, []⟩ 5 [v4, v3, v2, v1, v0] 1 [L0]
  rw [qH5_vc]
  repeat' first | refine And.intro ?_ ?_ | intro _
  all_goals first | rfl | (show [_] = [L0.set v3.toNat v4]; grind))
noncomputable def qH6_t : Tree := .both (.letI (.bit .andNot .i64 (.c 1) (.v 2)) (.letI (.cmp .eql (.v 4) (.c 0)) (.letI (.not (.v 5)) (.ite (.v 6) (.done [.c (7), .c (0)] []) (.letI (.get 0 (.v 3)) (.done [.c (0), .v 7] [])))))) (.letI (.bit .andNot .i64 (.c 1) (.v 2)) (.letI (.cmp .eql (.v 4) (.c 0)) (.letI (.not (.v 5)) (.ite (.v 6) (.done [.c (7), .c (0)] []) (.letI (.get 0 (.v 3)) (.done [.c (0), .v 7] []))))))
theorem qH6_tree : (L2.qH6).exe Tryz.prog (L2.cfg Tryz.prog) [] 20 200 = qH6_t := by kernel_rfl
theorem qH6_vc (Q : List Int → List (List Int) → Prop) (v0 v1 v2 v3 : Int) (L0 : List Int) : qH6_t.dn ⟨Q, []⟩ 4 [v3, v2, v1, v0] 1 [L0] = ((∀ v4 : Int, v4 = bitDen .andNot .i64 (1 : Int) v2 → ∀ v5 : Int, v5 = b2i (v4 == (0 : Int)) → ∀ v6 : Int, v6 = b2i (v5 == 0) → (v6 ≠ 0 → Q [(7 : Int), (0 : Int)] []) ∧
(v6 = 0 → ∀ v7 : Int, v7 = (L0).getD (v3).toNat 0 → Q [(0 : Int), v7] [])) ∧
(∀ v4 : Int, v4 = bitDen .andNot .i64 (1 : Int) v2 → ∀ v5 : Int, v5 = b2i (v4 == (0 : Int)) → ∀ v6 : Int, v6 = b2i (v5 == 0) → (v6 ≠ 0 → Q [(7 : Int), (0 : Int)] []) ∧
(v6 = 0 → ∀ v7 : Int, v7 = (L0).getD (v3).toNat 0 → Q [(0 : Int), v7] []))) := by kernel_rfl
set_option maxHeartbeats 4000000 in
theorem qH6_holds : (L2.qH6).Holds Tryz.prog L2.ro := FSpec.holdsV (cfg := L2.cfg Tryz.prog) [] 20 200 cfg_ok mixed (t := qH6_t) qH6_tree (by
  show ∀ (v0 v1 v2 v3 : Int) (L0 : List Int), _
  intro v0 v1 v2 v3 L0 hp hr hl
  replace hr : (((2) : Int) ≤ v0 ∧ v0 ≤ ((9223372036854775807) : Int)) ∧ (((2) : Int) ≤ v1 ∧ v1 ≤ ((9223372036854775807) : Int)) ∧ (((1) : Int) ≤ v2 ∧ v2 ≤ ((3) : Int)) ∧ (((0) : Int) ≤ v3 ∧ v3 ≤ ((15) : Int)) ∧ True := hr
  replace hl : (∀ x ∈ L0, (((0) : Int) ≤ x ∧ x ≤ ((18446744073709551615) : Int))) ∧ True := hl
  show qH6_t.dn ⟨_, []⟩ 4 [v3, v2, v1, v0] 1 [L0]
  rw [qH6_vc]
  have b := andNot3 (a := 1) (b := v2) (by omega) (by omega) (by omega) (by omega)
  repeat' first | refine And.intro ?_ ?_ | intro _
  all_goals first | rfl | (show [_, _] = [if letsB v2 20 then 0 else 7, if letsB v2 20 then L0.getD v3.toNat 0 else 0]; grind [letsB, b2i]))
end Go.Proofs.YtbpilohnhhbbpaaGreatDoor
