/- The executor: texts of it, one behind another. -/
import Derived.Test.YtbpilohnhhbbpaaGreatDoorL2Facts
import Derived.Test.YtbpilohnhhbbpaaGreatDoorSxM7
import Derived.Test.YtbpilohnhhbbpaaGreatDoorL2S
set_option linter.unusedVariables false
set_option linter.constructorNameAsVariable false
/- Contracts: words of calls. -/
set_option linter.unusedVariables false
set_option linter.unusedSimpArgs false
open Go Go.Sx
namespace Go.Proofs.YtbpilohnhhbbpaaGreatDoor
set_option maxRecDepth 100000
noncomputable def wKind_t : Tree := .letI (.cmp .leq (.c 1) (.v 0)) (.ite (.v 5) (.letI (.cmp .leq (.v 0) (.c 10)) (.ite (.v 6) (.done [.v 0, .c (1)] []) (.letI (.cmp .leq (.c 20) (.v 0)) (.ite (.v 7) (.letI (.cmp .leq (.v 0) (.c 23)) (.ite (.v 8) (.done [.v 0, .c (1)] []) (.done [.c (0), .c (0)] []))) (.done [.c (0), .c (0)] []))))) (.done [.c (0), .c (0)] []))
theorem wKind_tree : (L2.kind_ L2.f_word_Kind).exe Tryz.prog (L2.cfg Tryz.prog) [] 20 200 = wKind_t := by kernel_rfl
theorem wKind_vc (Q : List Int → List (List Int) → Prop) (v0 v1 v2 v3 v4 : Int) : wKind_t.dn ⟨Q, []⟩ 5 [v4, v3, v2, v1, v0] 0 [] = ((((1 : Int) ≤ v0) → ((v0 ≤ (10 : Int)) → Q [v0, (1 : Int)] []) ∧
(((10 : Int) < v0) → (((20 : Int) ≤ v0) → ((v0 ≤ (23 : Int)) → Q [v0, (1 : Int)] []) ∧
(((23 : Int) < v0) → Q [(0 : Int), (0 : Int)] [])) ∧
((v0 < (20 : Int)) → Q [(0 : Int), (0 : Int)] []))) ∧
((v0 < (1 : Int)) → Q [(0 : Int), (0 : Int)] [])) := by kernel_rfl
set_option maxHeartbeats 4000000 in
theorem wKind_holds : (L2.kind_ L2.f_word_Kind).Holds Tryz.prog L2.ro := FSpec.holdsV (cfg := L2.cfg Tryz.prog) [] 20 200 cfg_ok mixed (t := wKind_t) wKind_tree (by
  show ∀ (v0 v1 v2 v3 v4 : Int) , _
  intro v0 v1 v2 v3 v4  hp hr hl
  replace hr : (((0) : Int) ≤ v0 ∧ v0 ≤ ((18446744073709551615) : Int)) ∧ (((0) : Int) ≤ v1 ∧ v1 ≤ ((18446744073709551615) : Int)) ∧ (((0) : Int) ≤ v2 ∧ v2 ≤ ((18446744073709551615) : Int)) ∧ (((0) : Int) ≤ v3 ∧ v3 ≤ ((18446744073709551615) : Int)) ∧ (((0) : Int) ≤ v4 ∧ v4 ≤ ((18446744073709551615) : Int)) ∧ True := hr
  replace hl : True := hl
  show wKind_t.dn ⟨_, []⟩ 5 [v4, v3, v2, v1, v0] 0 []
  rw [wKind_vc]
  repeat' first | refine And.intro ?_ ?_ | intro _
  all_goals
    show [_, _] = [callN v0, b2i (callOk v0)]
    grind [callN, callOk, b2i])
noncomputable def rKind_t : Tree := .letI (.cmp .leq (.c 1) (.v 0)) (.ite (.v 5) (.letI (.cmp .leq (.v 0) (.c 10)) (.ite (.v 6) (.done [.v 0, .c (1)] []) (.letI (.cmp .leq (.c 20) (.v 0)) (.ite (.v 7) (.letI (.cmp .leq (.v 0) (.c 23)) (.ite (.v 8) (.done [.v 0, .c (1)] []) (.done [.c (0), .c (0)] []))) (.done [.c (0), .c (0)] []))))) (.done [.c (0), .c (0)] []))
theorem rKind_tree : (L2.kind_ L2.f_messuageref2_Kind).exe Tryz.prog (L2.cfg Tryz.prog) [] 20 200 = rKind_t := by kernel_rfl
theorem rKind_vc (Q : List Int → List (List Int) → Prop) (v0 v1 v2 v3 v4 : Int) : rKind_t.dn ⟨Q, []⟩ 5 [v4, v3, v2, v1, v0] 0 [] = ((((1 : Int) ≤ v0) → ((v0 ≤ (10 : Int)) → Q [v0, (1 : Int)] []) ∧
(((10 : Int) < v0) → (((20 : Int) ≤ v0) → ((v0 ≤ (23 : Int)) → Q [v0, (1 : Int)] []) ∧
(((23 : Int) < v0) → Q [(0 : Int), (0 : Int)] [])) ∧
((v0 < (20 : Int)) → Q [(0 : Int), (0 : Int)] []))) ∧
((v0 < (1 : Int)) → Q [(0 : Int), (0 : Int)] [])) := by kernel_rfl
set_option maxHeartbeats 4000000 in
theorem rKind_holds : (L2.kind_ L2.f_messuageref2_Kind).Holds Tryz.prog L2.ro := FSpec.holdsV (cfg := L2.cfg Tryz.prog) [] 20 200 cfg_ok mixed (t := rKind_t) rKind_tree (by
  show ∀ (v0 v1 v2 v3 v4 : Int) , _
  intro v0 v1 v2 v3 v4  hp hr hl
  replace hr : (((0) : Int) ≤ v0 ∧ v0 ≤ ((18446744073709551615) : Int)) ∧ (((0) : Int) ≤ v1 ∧ v1 ≤ ((18446744073709551615) : Int)) ∧ (((0) : Int) ≤ v2 ∧ v2 ≤ ((18446744073709551615) : Int)) ∧ (((0) : Int) ≤ v3 ∧ v3 ≤ ((18446744073709551615) : Int)) ∧ (((0) : Int) ≤ v4 ∧ v4 ≤ ((18446744073709551615) : Int)) ∧ True := hr
  replace hl : True := hl
  show rKind_t.dn ⟨_, []⟩ 5 [v4, v3, v2, v1, v0] 0 []
  rw [rKind_vc]
  repeat' first | refine And.intro ?_ ?_ | intro _
  all_goals
    show [_, _] = [callN v0, b2i (callOk v0)]
    grind [callN, callOk, b2i])
noncomputable def wCheck_t : Tree := .letI (.cmp .leq (.c 1) (.v 0)) (.ite (.v 6) (.letI (.cmp .leq (.v 0) (.c 10)) (.ite (.v 7) (.letI (.cmp .eql (.v 0) (.c 1)) (.ite (.v 8) (.letI (.cmp .leq (.c 8) (.v 1)) (.ite (.v 9) (.done [.c (2)] []) (.done [.c (0)] []))) (.letI (.cmp .eql (.v 0) (.c 4)) (.ite (.v 9) (.letI (.cmp .leq (.c 8) (.v 1)) (.ite (.v 10) (.done [.c (2)] []) (.done [.c (0)] []))) (.letI (.cmp .eql (.v 0) (.c 5)) (.ite (.v 10) (.letI (.cmp .leq (.c 8) (.v 1)) (.ite (.v 11) (.done [.c (2)] []) (.done [.c (0)] []))) (.letI (.cmp .eql (.v 0) (.c 2)) (.ite (.v 11) (.letI (.cmp .leq (.c 8) (.v 1)) (.ite (.v 12) (.done [.c (2)] []) (.letI (.cmp .leq (.c 8) (.v 2)) (.ite (.v 13) (.done [.c (2)] []) (.letI (.cmp .lss (.v 3) (.c 1)) (.ite (.v 14) (.done [.c (2)] []) (.letI (.cmp .lss (.c 3) (.v 3)) (.ite (.v 15) (.done [.c (2)] []) (.done [.c (0)] []))))))))) (.letI (.cmp .eql (.v 0) (.c 3)) (.ite (.v 12) (.letI (.cmp .leq (.c 8) (.v 1)) (.ite (.v 13) (.done [.c (2)] []) (.letI (.cmp .leq (.v 5) (.c 0)) (.ite (.v 14) (.done [.c (2)] []) (.letI (.cmp .leq (.v 5) (.v 2)) (.ite (.v 15) (.done [.c (2)] []) (.letI (.cmp .leq (.c 8) (.v 3)) (.ite (.v 16) (.done [.c (2)] []) (.letI (.cmp .lss (.v 4) (.c 1)) (.ite (.v 17) (.done [.c (2)] []) (.letI (.cmp .lss (.c 3) (.v 4)) (.ite (.v 18) (.done [.c (2)] []) (.done [.c (0)] []))))))))))))) (.letI (.cmp .eql (.v 0) (.c 6)) (.ite (.v 13) (.letI (.cmp .leq (.c 8) (.v 1)) (.ite (.v 14) (.done [.c (2)] []) (.letI (.cmp .leq (.c 8) (.v 2)) (.ite (.v 15) (.done [.c (2)] []) (.letI (.cmp .lss (.v 3) (.c 1)) (.ite (.v 16) (.done [.c (2)] []) (.letI (.cmp .lss (.c 3) (.v 3)) (.ite (.v 17) (.done [.c (2)] []) (.done [.c (0)] []))))))))) (.letI (.cmp .eql (.v 0) (.c 7)) (.ite (.v 14) (.letI (.cmp .leq (.c 8) (.v 1)) (.ite (.v 15) (.done [.c (2)] []) (.done [.c (0)] []))) (.letI (.cmp .eql (.v 0) (.c 8)) (.ite (.v 15) (.letI (.cmp .leq (.c 8) (.v 1)) (.ite (.v 16) (.done [.c (2)] []) (.letI (.cmp .lss (.v 2) (.c 1)) (.ite (.v 17) (.done [.c (2)] []) (.letI (.cmp .lss (.c 3) (.v 2)) (.ite (.v 18) (.done [.c (2)] []) (.done [.c (0)] []))))))) (.letI (.cmp .eql (.v 0) (.c 9)) (.ite (.v 16) (.letI (.cmp .leq (.c 8) (.v 1)) (.ite (.v 17) (.done [.c (2)] []) (.letI (.cmp .leq (.c 16) (.v 2)) (.ite (.v 18) (.done [.c (2)] []) (.letI (.cmp .leq (.c 1) (.v 3)) (.ite (.v 19) (.letI (.cmp .leq (.v 3) (.c 4)) (.letI (.not (.v 20)) (.ite (.v 21) (.done [.c (2)] []) (.done [.c (0)] [])))) (.done [.c (2)] []))))))) (.done [.c (0)] []))))))))))))))))))) (.letI (.cmp .leq (.c 20) (.v 0)) (.ite (.v 8) (.letI (.cmp .leq (.v 0) (.c 23)) (.ite (.v 9) (.letI (.cmp .eql (.v 0) (.c 20)) (.ite (.v 10) (.letI (.cmp .leq (.c 8) (.v 1)) (.ite (.v 11) (.done [.c (2)] []) (.letI (.cmp .leq (.c 16) (.v 2)) (.ite (.v 12) (.done [.c (2)] []) (.done [.c (0)] []))))) (.letI (.cmp .eql (.v 0) (.c 21)) (.ite (.v 11) (.letI (.cmp .leq (.c 8) (.v 1)) (.ite (.v 12) (.done [.c (2)] []) (.letI (.cmp .leq (.c 16) (.v 2)) (.ite (.v 13) (.done [.c (2)] []) (.done [.c (0)] []))))) (.letI (.cmp .eql (.v 0) (.c 23)) (.ite (.v 12) (.letI (.cmp .leq (.c 8) (.v 1)) (.ite (.v 13) (.done [.c (2)] []) (.letI (.cmp .leq (.c 16) (.v 2)) (.ite (.v 14) (.done [.c (2)] []) (.done [.c (0)] []))))) (.letI (.cmp .leq (.c 8) (.v 1)) (.ite (.v 13) (.done [.c (2)] []) (.letI (.cmp .leq (.c 16) (.v 2)) (.ite (.v 14) (.done [.c (2)] []) (.done [.c (0)] []))))))))))) (.done [.c (1)] []))) (.done [.c (1)] []))))) (.done [.c (1)] []))
theorem wCheck_tree : (L2.check_ L2.f_word_Check).exe Tryz.prog (L2.cfg Tryz.prog) [] 20 200 = wCheck_t := by kernel_rfl
theorem wCheck_vc (Q : List Int → List (List Int) → Prop) (v0 v1 v2 v3 v4 v5 : Int) : wCheck_t.dn ⟨Q, []⟩ 6 [v5, v4, v3, v2, v1, v0] 0 [] = ((((1 : Int) ≤ v0) → ((v0 ≤ (10 : Int)) → ((v0 = (1 : Int)) → (((8 : Int) ≤ v1) → Q [(2 : Int)] []) ∧
((v1 < (8 : Int)) → Q [(0 : Int)] [])) ∧
((v0 ≠ (1 : Int)) → ((v0 = (4 : Int)) → (((8 : Int) ≤ v1) → Q [(2 : Int)] []) ∧
((v1 < (8 : Int)) → Q [(0 : Int)] [])) ∧
((v0 ≠ (4 : Int)) → ((v0 = (5 : Int)) → (((8 : Int) ≤ v1) → Q [(2 : Int)] []) ∧
((v1 < (8 : Int)) → Q [(0 : Int)] [])) ∧
((v0 ≠ (5 : Int)) → ((v0 = (2 : Int)) → (((8 : Int) ≤ v1) → Q [(2 : Int)] []) ∧
((v1 < (8 : Int)) → (((8 : Int) ≤ v2) → Q [(2 : Int)] []) ∧
((v2 < (8 : Int)) → ((v3 < (1 : Int)) → Q [(2 : Int)] []) ∧
(((1 : Int) ≤ v3) → (((3 : Int) < v3) → Q [(2 : Int)] []) ∧
((v3 ≤ (3 : Int)) → Q [(0 : Int)] []))))) ∧
((v0 ≠ (2 : Int)) → ((v0 = (3 : Int)) → (((8 : Int) ≤ v1) → Q [(2 : Int)] []) ∧
((v1 < (8 : Int)) → ((v5 ≤ (0 : Int)) → Q [(2 : Int)] []) ∧
(((0 : Int) < v5) → ((v5 ≤ v2) → Q [(2 : Int)] []) ∧
((v2 < v5) → (((8 : Int) ≤ v3) → Q [(2 : Int)] []) ∧
((v3 < (8 : Int)) → ((v4 < (1 : Int)) → Q [(2 : Int)] []) ∧
(((1 : Int) ≤ v4) → (((3 : Int) < v4) → Q [(2 : Int)] []) ∧
((v4 ≤ (3 : Int)) → Q [(0 : Int)] []))))))) ∧
((v0 ≠ (3 : Int)) → ((v0 = (6 : Int)) → (((8 : Int) ≤ v1) → Q [(2 : Int)] []) ∧
((v1 < (8 : Int)) → (((8 : Int) ≤ v2) → Q [(2 : Int)] []) ∧
((v2 < (8 : Int)) → ((v3 < (1 : Int)) → Q [(2 : Int)] []) ∧
(((1 : Int) ≤ v3) → (((3 : Int) < v3) → Q [(2 : Int)] []) ∧
((v3 ≤ (3 : Int)) → Q [(0 : Int)] []))))) ∧
((v0 ≠ (6 : Int)) → ((v0 = (7 : Int)) → (((8 : Int) ≤ v1) → Q [(2 : Int)] []) ∧
((v1 < (8 : Int)) → Q [(0 : Int)] [])) ∧
((v0 ≠ (7 : Int)) → ((v0 = (8 : Int)) → (((8 : Int) ≤ v1) → Q [(2 : Int)] []) ∧
((v1 < (8 : Int)) → ((v2 < (1 : Int)) → Q [(2 : Int)] []) ∧
(((1 : Int) ≤ v2) → (((3 : Int) < v2) → Q [(2 : Int)] []) ∧
((v2 ≤ (3 : Int)) → Q [(0 : Int)] [])))) ∧
((v0 ≠ (8 : Int)) → ((v0 = (9 : Int)) → (((8 : Int) ≤ v1) → Q [(2 : Int)] []) ∧
((v1 < (8 : Int)) → (((16 : Int) ≤ v2) → Q [(2 : Int)] []) ∧
((v2 < (16 : Int)) → (((1 : Int) ≤ v3) → ∀ v20 : Int, v20 = b2i (decide (v3 ≤ (4 : Int))) → ∀ v21 : Int, v21 = b2i (v20 == 0) → (v21 ≠ 0 → Q [(2 : Int)] []) ∧
(v21 = 0 → Q [(0 : Int)] [])) ∧
((v3 < (1 : Int)) → Q [(2 : Int)] [])))) ∧
((v0 ≠ (9 : Int)) → Q [(0 : Int)] [])))))))))) ∧
(((10 : Int) < v0) → (((20 : Int) ≤ v0) → ((v0 ≤ (23 : Int)) → ((v0 = (20 : Int)) → (((8 : Int) ≤ v1) → Q [(2 : Int)] []) ∧
((v1 < (8 : Int)) → (((16 : Int) ≤ v2) → Q [(2 : Int)] []) ∧
((v2 < (16 : Int)) → Q [(0 : Int)] []))) ∧
((v0 ≠ (20 : Int)) → ((v0 = (21 : Int)) → (((8 : Int) ≤ v1) → Q [(2 : Int)] []) ∧
((v1 < (8 : Int)) → (((16 : Int) ≤ v2) → Q [(2 : Int)] []) ∧
((v2 < (16 : Int)) → Q [(0 : Int)] []))) ∧
((v0 ≠ (21 : Int)) → ((v0 = (23 : Int)) → (((8 : Int) ≤ v1) → Q [(2 : Int)] []) ∧
((v1 < (8 : Int)) → (((16 : Int) ≤ v2) → Q [(2 : Int)] []) ∧
((v2 < (16 : Int)) → Q [(0 : Int)] []))) ∧
((v0 ≠ (23 : Int)) → (((8 : Int) ≤ v1) → Q [(2 : Int)] []) ∧
((v1 < (8 : Int)) → (((16 : Int) ≤ v2) → Q [(2 : Int)] []) ∧
((v2 < (16 : Int)) → Q [(0 : Int)] [])))))) ∧
(((23 : Int) < v0) → Q [(1 : Int)] [])) ∧
((v0 < (20 : Int)) → Q [(1 : Int)] []))) ∧
((v0 < (1 : Int)) → Q [(1 : Int)] [])) := by kernel_rfl
set_option maxHeartbeats 4000000 in
theorem wCheck_holds : (L2.check_ L2.f_word_Check).Holds Tryz.prog L2.ro := FSpec.holdsV (cfg := L2.cfg Tryz.prog) [] 20 200 cfg_ok mixed (t := wCheck_t) wCheck_tree (by
  show ∀ (v0 v1 v2 v3 v4 v5 : Int) , _
  intro v0 v1 v2 v3 v4 v5  hp hr hl
  replace hr : (((0) : Int) ≤ v0 ∧ v0 ≤ ((18446744073709551615) : Int)) ∧ (((0) : Int) ≤ v1 ∧ v1 ≤ ((18446744073709551615) : Int)) ∧ (((0) : Int) ≤ v2 ∧ v2 ≤ ((18446744073709551615) : Int)) ∧ (((0) : Int) ≤ v3 ∧ v3 ≤ ((18446744073709551615) : Int)) ∧ (((0) : Int) ≤ v4 ∧ v4 ≤ ((18446744073709551615) : Int)) ∧ (((-9223372036854775808) : Int) ≤ v5 ∧ v5 ≤ ((9223372036854775807) : Int)) ∧ True := hr
  replace hl : True := hl
  show wCheck_t.dn ⟨_, []⟩ 6 [v5, v4, v3, v2, v1, v0] 0 []
  rw [wCheck_vc]
  repeat' first | refine And.intro ?_ ?_ | intro _
  all_goals first | omega | skip
  all_goals
    show [_] = [checkN v0 v1 v2 v3 v4 v5]
    grind [checkN, callOk, argsB, rightsB, opB, envB, b2i])
noncomputable def rCheck_t : Tree := .letI (.cmp .leq (.c 1) (.v 0)) (.ite (.v 6) (.letI (.cmp .leq (.v 0) (.c 10)) (.ite (.v 7) (.letI (.cmp .eql (.v 0) (.c 1)) (.ite (.v 8) (.letI (.cmp .leq (.c 8) (.v 1)) (.ite (.v 9) (.done [.c (2)] []) (.done [.c (0)] []))) (.letI (.cmp .eql (.v 0) (.c 2)) (.ite (.v 9) (.letI (.cmp .leq (.c 8) (.v 1)) (.ite (.v 10) (.done [.c (2)] []) (.letI (.cmp .leq (.c 8) (.v 2)) (.ite (.v 11) (.done [.c (2)] []) (.letI (.cmp .lss (.v 3) (.c 1)) (.ite (.v 12) (.done [.c (2)] []) (.letI (.cmp .lss (.c 3) (.v 3)) (.ite (.v 13) (.done [.c (2)] []) (.done [.c (0)] []))))))))) (.letI (.cmp .eql (.v 0) (.c 3)) (.ite (.v 10) (.letI (.cmp .leq (.c 8) (.v 1)) (.ite (.v 11) (.done [.c (2)] []) (.letI (.cmp .lss (.v 5) (.c 1)) (.ite (.v 12) (.done [.c (2)] []) (.letI (.cmp .leq (.v 5) (.v 2)) (.ite (.v 13) (.done [.c (2)] []) (.letI (.cmp .leq (.c 8) (.v 3)) (.ite (.v 14) (.done [.c (2)] []) (.letI (.cmp .lss (.v 4) (.c 1)) (.ite (.v 15) (.done [.c (2)] []) (.letI (.cmp .lss (.c 3) (.v 4)) (.ite (.v 16) (.done [.c (2)] []) (.done [.c (0)] []))))))))))))) (.letI (.cmp .eql (.v 0) (.c 4)) (.ite (.v 11) (.letI (.cmp .leq (.c 8) (.v 1)) (.ite (.v 12) (.done [.c (2)] []) (.done [.c (0)] []))) (.letI (.cmp .eql (.v 0) (.c 5)) (.ite (.v 12) (.letI (.cmp .leq (.c 8) (.v 1)) (.ite (.v 13) (.done [.c (2)] []) (.done [.c (0)] []))) (.letI (.cmp .eql (.v 0) (.c 6)) (.ite (.v 13) (.letI (.cmp .leq (.c 8) (.v 1)) (.ite (.v 14) (.done [.c (2)] []) (.letI (.cmp .leq (.c 8) (.v 2)) (.ite (.v 15) (.done [.c (2)] []) (.letI (.cmp .lss (.v 3) (.c 1)) (.ite (.v 16) (.done [.c (2)] []) (.letI (.cmp .lss (.c 3) (.v 3)) (.ite (.v 17) (.done [.c (2)] []) (.done [.c (0)] []))))))))) (.letI (.cmp .eql (.v 0) (.c 7)) (.ite (.v 14) (.letI (.cmp .leq (.c 8) (.v 1)) (.ite (.v 15) (.done [.c (2)] []) (.done [.c (0)] []))) (.letI (.cmp .eql (.v 0) (.c 8)) (.ite (.v 15) (.letI (.cmp .leq (.c 8) (.v 1)) (.ite (.v 16) (.done [.c (2)] []) (.letI (.cmp .lss (.v 2) (.c 1)) (.ite (.v 17) (.done [.c (2)] []) (.letI (.cmp .lss (.c 3) (.v 2)) (.ite (.v 18) (.done [.c (2)] []) (.done [.c (0)] []))))))) (.letI (.cmp .eql (.v 0) (.c 9)) (.ite (.v 16) (.letI (.cmp .leq (.c 8) (.v 1)) (.ite (.v 17) (.done [.c (2)] []) (.letI (.cmp .leq (.c 16) (.v 2)) (.ite (.v 18) (.done [.c (2)] []) (.letI (.cmp .lss (.v 3) (.c 1)) (.ite (.v 19) (.done [.c (2)] []) (.letI (.cmp .lss (.c 4) (.v 3)) (.ite (.v 20) (.done [.c (2)] []) (.done [.c (0)] []))))))))) (.done [.c (0)] []))))))))))))))))))) (.letI (.cmp .leq (.c 20) (.v 0)) (.ite (.v 8) (.letI (.cmp .leq (.v 0) (.c 23)) (.ite (.v 9) (.letI (.sub (.v 0) (.c 20)) (.letI (.cmp .eql (.v 10) (.c 0)) (.ite (.v 11) (.letI (.cmp .leq (.c 8) (.v 1)) (.ite (.v 12) (.done [.c (2)] []) (.letI (.cmp .leq (.c 16) (.v 2)) (.ite (.v 13) (.done [.c (2)] []) (.done [.c (0)] []))))) (.letI (.cmp .eql (.v 10) (.c 1)) (.ite (.v 12) (.letI (.cmp .leq (.c 8) (.v 1)) (.ite (.v 13) (.done [.c (2)] []) (.letI (.cmp .leq (.c 16) (.v 2)) (.ite (.v 14) (.done [.c (2)] []) (.done [.c (0)] []))))) (.letI (.cmp .eql (.v 10) (.c 2)) (.ite (.v 13) (.letI (.cmp .leq (.c 8) (.v 1)) (.ite (.v 14) (.done [.c (2)] []) (.letI (.cmp .leq (.c 16) (.v 2)) (.ite (.v 15) (.done [.c (2)] []) (.done [.c (0)] []))))) (.letI (.cmp .leq (.c 8) (.v 1)) (.ite (.v 14) (.done [.c (2)] []) (.letI (.cmp .leq (.c 16) (.v 2)) (.ite (.v 15) (.done [.c (2)] []) (.done [.c (0)] [])))))))))))) (.done [.c (1)] []))) (.done [.c (1)] []))))) (.done [.c (1)] []))
theorem rCheck_tree : (L2.check_ L2.f_messuageref2_Check).exe Tryz.prog (L2.cfg Tryz.prog) [] 20 200 = rCheck_t := by kernel_rfl
theorem rCheck_vc (Q : List Int → List (List Int) → Prop) (v0 v1 v2 v3 v4 v5 : Int) : rCheck_t.dn ⟨Q, []⟩ 6 [v5, v4, v3, v2, v1, v0] 0 [] = ((((1 : Int) ≤ v0) → ((v0 ≤ (10 : Int)) → ((v0 = (1 : Int)) → (((8 : Int) ≤ v1) → Q [(2 : Int)] []) ∧
((v1 < (8 : Int)) → Q [(0 : Int)] [])) ∧
((v0 ≠ (1 : Int)) → ((v0 = (2 : Int)) → (((8 : Int) ≤ v1) → Q [(2 : Int)] []) ∧
((v1 < (8 : Int)) → (((8 : Int) ≤ v2) → Q [(2 : Int)] []) ∧
((v2 < (8 : Int)) → ((v3 < (1 : Int)) → Q [(2 : Int)] []) ∧
(((1 : Int) ≤ v3) → (((3 : Int) < v3) → Q [(2 : Int)] []) ∧
((v3 ≤ (3 : Int)) → Q [(0 : Int)] []))))) ∧
((v0 ≠ (2 : Int)) → ((v0 = (3 : Int)) → (((8 : Int) ≤ v1) → Q [(2 : Int)] []) ∧
((v1 < (8 : Int)) → ((v5 < (1 : Int)) → Q [(2 : Int)] []) ∧
(((1 : Int) ≤ v5) → ((v5 ≤ v2) → Q [(2 : Int)] []) ∧
((v2 < v5) → (((8 : Int) ≤ v3) → Q [(2 : Int)] []) ∧
((v3 < (8 : Int)) → ((v4 < (1 : Int)) → Q [(2 : Int)] []) ∧
(((1 : Int) ≤ v4) → (((3 : Int) < v4) → Q [(2 : Int)] []) ∧
((v4 ≤ (3 : Int)) → Q [(0 : Int)] []))))))) ∧
((v0 ≠ (3 : Int)) → ((v0 = (4 : Int)) → (((8 : Int) ≤ v1) → Q [(2 : Int)] []) ∧
((v1 < (8 : Int)) → Q [(0 : Int)] [])) ∧
((v0 ≠ (4 : Int)) → ((v0 = (5 : Int)) → (((8 : Int) ≤ v1) → Q [(2 : Int)] []) ∧
((v1 < (8 : Int)) → Q [(0 : Int)] [])) ∧
((v0 ≠ (5 : Int)) → ((v0 = (6 : Int)) → (((8 : Int) ≤ v1) → Q [(2 : Int)] []) ∧
((v1 < (8 : Int)) → (((8 : Int) ≤ v2) → Q [(2 : Int)] []) ∧
((v2 < (8 : Int)) → ((v3 < (1 : Int)) → Q [(2 : Int)] []) ∧
(((1 : Int) ≤ v3) → (((3 : Int) < v3) → Q [(2 : Int)] []) ∧
((v3 ≤ (3 : Int)) → Q [(0 : Int)] []))))) ∧
((v0 ≠ (6 : Int)) → ((v0 = (7 : Int)) → (((8 : Int) ≤ v1) → Q [(2 : Int)] []) ∧
((v1 < (8 : Int)) → Q [(0 : Int)] [])) ∧
((v0 ≠ (7 : Int)) → ((v0 = (8 : Int)) → (((8 : Int) ≤ v1) → Q [(2 : Int)] []) ∧
((v1 < (8 : Int)) → ((v2 < (1 : Int)) → Q [(2 : Int)] []) ∧
(((1 : Int) ≤ v2) → (((3 : Int) < v2) → Q [(2 : Int)] []) ∧
((v2 ≤ (3 : Int)) → Q [(0 : Int)] [])))) ∧
((v0 ≠ (8 : Int)) → ((v0 = (9 : Int)) → (((8 : Int) ≤ v1) → Q [(2 : Int)] []) ∧
((v1 < (8 : Int)) → (((16 : Int) ≤ v2) → Q [(2 : Int)] []) ∧
((v2 < (16 : Int)) → ((v3 < (1 : Int)) → Q [(2 : Int)] []) ∧
(((1 : Int) ≤ v3) → (((4 : Int) < v3) → Q [(2 : Int)] []) ∧
((v3 ≤ (4 : Int)) → Q [(0 : Int)] []))))) ∧
((v0 ≠ (9 : Int)) → Q [(0 : Int)] [])))))))))) ∧
(((10 : Int) < v0) → (((20 : Int) ≤ v0) → ((v0 ≤ (23 : Int)) → ∀ v10 : Int, v10 = v0 - (20 : Int) → ((v10 = (0 : Int)) → (((8 : Int) ≤ v1) → Q [(2 : Int)] []) ∧
((v1 < (8 : Int)) → (((16 : Int) ≤ v2) → Q [(2 : Int)] []) ∧
((v2 < (16 : Int)) → Q [(0 : Int)] []))) ∧
((v10 ≠ (0 : Int)) → ((v10 = (1 : Int)) → (((8 : Int) ≤ v1) → Q [(2 : Int)] []) ∧
((v1 < (8 : Int)) → (((16 : Int) ≤ v2) → Q [(2 : Int)] []) ∧
((v2 < (16 : Int)) → Q [(0 : Int)] []))) ∧
((v10 ≠ (1 : Int)) → ((v10 = (2 : Int)) → (((8 : Int) ≤ v1) → Q [(2 : Int)] []) ∧
((v1 < (8 : Int)) → (((16 : Int) ≤ v2) → Q [(2 : Int)] []) ∧
((v2 < (16 : Int)) → Q [(0 : Int)] []))) ∧
((v10 ≠ (2 : Int)) → (((8 : Int) ≤ v1) → Q [(2 : Int)] []) ∧
((v1 < (8 : Int)) → (((16 : Int) ≤ v2) → Q [(2 : Int)] []) ∧
((v2 < (16 : Int)) → Q [(0 : Int)] [])))))) ∧
(((23 : Int) < v0) → Q [(1 : Int)] [])) ∧
((v0 < (20 : Int)) → Q [(1 : Int)] []))) ∧
((v0 < (1 : Int)) → Q [(1 : Int)] [])) := by kernel_rfl
set_option maxHeartbeats 4000000 in
theorem rCheck_holds : (L2.check_ L2.f_messuageref2_Check).Holds Tryz.prog L2.ro := FSpec.holdsV (cfg := L2.cfg Tryz.prog) [] 20 200 cfg_ok mixed (t := rCheck_t) rCheck_tree (by
  show ∀ (v0 v1 v2 v3 v4 v5 : Int) , _
  intro v0 v1 v2 v3 v4 v5  hp hr hl
  replace hr : (((0) : Int) ≤ v0 ∧ v0 ≤ ((18446744073709551615) : Int)) ∧ (((0) : Int) ≤ v1 ∧ v1 ≤ ((18446744073709551615) : Int)) ∧ (((0) : Int) ≤ v2 ∧ v2 ≤ ((18446744073709551615) : Int)) ∧ (((0) : Int) ≤ v3 ∧ v3 ≤ ((18446744073709551615) : Int)) ∧ (((0) : Int) ≤ v4 ∧ v4 ≤ ((18446744073709551615) : Int)) ∧ (((-9223372036854775808) : Int) ≤ v5 ∧ v5 ≤ ((9223372036854775807) : Int)) ∧ True := hr
  replace hl : True := hl
  show rCheck_t.dn ⟨_, []⟩ 6 [v5, v4, v3, v2, v1, v0] 0 []
  rw [rCheck_vc]
  repeat' first | refine And.intro ?_ ?_ | intro _
  all_goals first | omega | skip
  all_goals
    show [_] = [checkN v0 v1 v2 v3 v4 v5]
    grind [checkN, callOk, argsB, rightsB, opB, envB, b2i])
end Go.Proofs.YtbpilohnhhbbpaaGreatDoor
/- Contracts: rights, entries as words. -/
set_option linter.unusedVariables false
set_option linter.unusedSimpArgs false
open Go Go.Sx
namespace Go.Proofs.YtbpilohnhhbbpaaGreatDoor
set_option maxRecDepth 100000
noncomputable def pLets_t : Tree := .letI (.cmp .eql (.v 1) (.c 20)) (.ite (.v 2) (.letI (.cmp .leq (.c 1) (.v 0)) (.ite (.v 3) (.letI (.cmp .leq (.v 0) (.c 3)) (.ite (.v 4) (.letI (.bit .andNot .i64 (.c 1) (.v 0)) (.letI (.cmp .eql (.v 5) (.c 0)) (.done [.v 6] []))) (.done [.c (0)] []))) (.done [.c (0)] []))) (.letI (.cmp .eql (.v 1) (.c 21)) (.ite (.v 3) (.letI (.cmp .leq (.c 1) (.v 0)) (.ite (.v 4) (.letI (.cmp .leq (.v 0) (.c 3)) (.ite (.v 5) (.letI (.bit .andNot .i64 (.c 2) (.v 0)) (.letI (.cmp .eql (.v 6) (.c 0)) (.done [.v 7] []))) (.done [.c (0)] []))) (.done [.c (0)] []))) (.letI (.cmp .eql (.v 1) (.c 22)) (.ite (.v 4) (.letI (.cmp .leq (.c 1) (.v 0)) (.ite (.v 5) (.letI (.cmp .leq (.v 0) (.c 3)) (.ite (.v 6) (.letI (.bit .andNot .i64 (.c 3) (.v 0)) (.letI (.cmp .eql (.v 7) (.c 0)) (.done [.v 8] []))) (.done [.c (0)] []))) (.done [.c (0)] []))) (.letI (.cmp .eql (.v 1) (.c 23)) (.ite (.v 5) (.letI (.cmp .leq (.c 1) (.v 0)) (.ite (.v 6) (.letI (.cmp .leq (.v 0) (.c 3)) (.ite (.v 7) (.letI (.bit .andNot .i64 (.c 3) (.v 0)) (.letI (.cmp .eql (.v 8) (.c 0)) (.done [.v 9] []))) (.done [.c (0)] []))) (.done [.c (0)] []))) (.done [.c (0)] []))))))))
theorem pLets_tree : (L2.lets_ L2.f_pte_Lets).exe Tryz.prog (L2.cfg Tryz.prog) [] 20 200 = pLets_t := by kernel_rfl
theorem pLets_vc (Q : List Int → List (List Int) → Prop) (v0 v1 : Int) : pLets_t.dn ⟨Q, []⟩ 2 [v1, v0] 0 [] = (((v1 = (20 : Int)) → (((1 : Int) ≤ v0) → ((v0 ≤ (3 : Int)) → ∀ v5 : Int, v5 = bitDen .andNot .i64 (1 : Int) v0 → ∀ v6 : Int, v6 = b2i (v5 == (0 : Int)) → Q [v6] []) ∧
(((3 : Int) < v0) → Q [(0 : Int)] [])) ∧
((v0 < (1 : Int)) → Q [(0 : Int)] [])) ∧
((v1 ≠ (20 : Int)) → ((v1 = (21 : Int)) → (((1 : Int) ≤ v0) → ((v0 ≤ (3 : Int)) → ∀ v6 : Int, v6 = bitDen .andNot .i64 (2 : Int) v0 → ∀ v7 : Int, v7 = b2i (v6 == (0 : Int)) → Q [v7] []) ∧
(((3 : Int) < v0) → Q [(0 : Int)] [])) ∧
((v0 < (1 : Int)) → Q [(0 : Int)] [])) ∧
((v1 ≠ (21 : Int)) → ((v1 = (22 : Int)) → (((1 : Int) ≤ v0) → ((v0 ≤ (3 : Int)) → ∀ v7 : Int, v7 = bitDen .andNot .i64 (3 : Int) v0 → ∀ v8 : Int, v8 = b2i (v7 == (0 : Int)) → Q [v8] []) ∧
(((3 : Int) < v0) → Q [(0 : Int)] [])) ∧
((v0 < (1 : Int)) → Q [(0 : Int)] [])) ∧
((v1 ≠ (22 : Int)) → ((v1 = (23 : Int)) → (((1 : Int) ≤ v0) → ((v0 ≤ (3 : Int)) → ∀ v8 : Int, v8 = bitDen .andNot .i64 (3 : Int) v0 → ∀ v9 : Int, v9 = b2i (v8 == (0 : Int)) → Q [v9] []) ∧
(((3 : Int) < v0) → Q [(0 : Int)] [])) ∧
((v0 < (1 : Int)) → Q [(0 : Int)] [])) ∧
((v1 ≠ (23 : Int)) → Q [(0 : Int)] []))))) := by kernel_rfl
set_option maxHeartbeats 4000000 in
theorem pLets_holds : (L2.lets_ L2.f_pte_Lets).Holds Tryz.prog L2.ro := FSpec.holdsV (cfg := L2.cfg Tryz.prog) [] 20 200 cfg_ok mixed (t := pLets_t) pLets_tree (by
  show ∀ (v0 v1 : Int) , _
  intro v0 v1  hp hr hl
  replace hr : (((-9223372036854775808) : Int) ≤ v0 ∧ v0 ≤ ((9223372036854775807) : Int)) ∧ (((-9223372036854775808) : Int) ≤ v1 ∧ v1 ≤ ((9223372036854775807) : Int)) ∧ True := hr
  replace hl : True := hl
  show pLets_t.dn ⟨_, []⟩ 2 [v1, v0] 0 []
  rw [pLets_vc]
  have bits : ∀ n : Int, (n = 1 ∨ n = 2 ∨ n = 3) → 1 ≤ v0 → v0 ≤ 3 → (bitDen .andNot .i64 n v0 = 0 ↔ n = v0 ∨ v0 = 3) := by
    intro n hn c d
    have h1 : v0 = 1 ∨ v0 = 2 ∨ v0 = 3 := by omega
    rcases hn with rfl | rfl | rfl <;> rcases h1 with rfl | rfl | rfl <;> decide +kernel
  have b1 := bits 1 (by omega)
  have b2 := bits 2 (by omega)
  have b3 := bits 3 (by omega)
  clear bits
  by_cases h0 : v0 < 1 ∨ 3 < v0
  · have e := letsB_out (k := v1) h0
    repeat' first | refine And.intro ?_ ?_ | intro _
    all_goals first | omega | (show [_] = [b2i (letsB v0 v1)]; rw [e]; rfl) | (show [_] = [b2i (letsB v0 v1)]; rw [e]; grind [b2i])
  · have h1 : v0 = 1 ∨ v0 = 2 ∨ v0 = 3 := by omega
    clear hp hr hl
    rcases h1 with rfl | rfl | rfl
    all_goals
      repeat' first | refine And.intro ?_ ?_ | intro _
      all_goals first | omega | (show [_] = [b2i (letsB _ v1)]; simp_all [letsB, b2i]; done) | (show [_] = [b2i (letsB _ v1)]; simp_all [letsB, b2i]; omega))
noncomputable def rLets_t : Tree := .letI (.cmp .leq (.c 1) (.v 0)) (.ite (.v 2) (.letI (.cmp .leq (.v 0) (.c 3)) (.letI (.not (.v 3)) (.ite (.v 4) (.done [.c (0)] []) (.letI (.cmp .eql (.v 1) (.c 20)) (.ite (.v 5) (.letI (.rem (.v 0) (.c 2)) (.letI (.cmp .eql (.v 6) (.c 1)) (.done [.v 7] []))) (.letI (.cmp .eql (.v 1) (.c 21)) (.ite (.v 6) (.letI (.cmp .leq (.c 2) (.v 0)) (.done [.v 7] [])) (.letI (.cmp .eql (.v 1) (.c 22)) (.ite (.v 7) (.letI (.cmp .eql (.v 0) (.c 3)) (.done [.v 8] [])) (.letI (.cmp .eql (.v 1) (.c 23)) (.ite (.v 8) (.letI (.cmp .eql (.v 0) (.c 3)) (.done [.v 9] [])) (.done [.c (0)] [])))))))))))) (.done [.c (0)] []))
theorem rLets_tree : (L2.lets_ L2.f_messuageref2_Lets).exe Tryz.prog (L2.cfg Tryz.prog) [] 20 200 = rLets_t := by kernel_rfl
theorem rLets_vc (Q : List Int → List (List Int) → Prop) (v0 v1 : Int) : rLets_t.dn ⟨Q, []⟩ 2 [v1, v0] 0 [] = ((((1 : Int) ≤ v0) → ∀ v3 : Int, v3 = b2i (decide (v0 ≤ (3 : Int))) → ∀ v4 : Int, v4 = b2i (v3 == 0) → (v4 ≠ 0 → Q [(0 : Int)] []) ∧
(v4 = 0 → ((v1 = (20 : Int)) → ∀ v6 : Int, v6 = (v0).tmod (2 : Int) → ∀ v7 : Int, v7 = b2i (v6 == (1 : Int)) → Q [v7] []) ∧
((v1 ≠ (20 : Int)) → ((v1 = (21 : Int)) → ∀ v7 : Int, v7 = b2i (decide ((2 : Int) ≤ v0)) → Q [v7] []) ∧
((v1 ≠ (21 : Int)) → ((v1 = (22 : Int)) → ∀ v8 : Int, v8 = b2i (v0 == (3 : Int)) → Q [v8] []) ∧
((v1 ≠ (22 : Int)) → ((v1 = (23 : Int)) → ∀ v9 : Int, v9 = b2i (v0 == (3 : Int)) → Q [v9] []) ∧
((v1 ≠ (23 : Int)) → Q [(0 : Int)] [])))))) ∧
((v0 < (1 : Int)) → Q [(0 : Int)] [])) := by kernel_rfl
set_option maxHeartbeats 4000000 in
theorem rLets_holds : (L2.lets_ L2.f_messuageref2_Lets).Holds Tryz.prog L2.ro := FSpec.holdsV (cfg := L2.cfg Tryz.prog) [] 20 200 cfg_ok mixed (t := rLets_t) rLets_tree (by
  show ∀ (v0 v1 : Int) , _
  intro v0 v1  hp hr hl
  replace hr : (((-9223372036854775808) : Int) ≤ v0 ∧ v0 ≤ ((9223372036854775807) : Int)) ∧ (((-9223372036854775808) : Int) ≤ v1 ∧ v1 ≤ ((9223372036854775807) : Int)) ∧ True := hr
  replace hl : True := hl
  show rLets_t.dn ⟨_, []⟩ 2 [v1, v0] 0 []
  rw [rLets_vc]
  have bits : ∀ n : Int, (n = 1 ∨ n = 2 ∨ n = 3) → 1 ≤ v0 → v0 ≤ 3 → (bitDen .andNot .i64 n v0 = 0 ↔ n = v0 ∨ v0 = 3) := by
    intro n hn c d
    have h1 : v0 = 1 ∨ v0 = 2 ∨ v0 = 3 := by omega
    rcases hn with rfl | rfl | rfl <;> rcases h1 with rfl | rfl | rfl <;> decide +kernel
  have b1 := bits 1 (by omega)
  have b2 := bits 2 (by omega)
  have b3 := bits 3 (by omega)
  clear bits
  by_cases h0 : v0 < 1 ∨ 3 < v0
  · have e := letsB_out (k := v1) h0
    repeat' first | refine And.intro ?_ ?_ | intro _
    all_goals first | omega | (show [_] = [b2i (letsB v0 v1)]; rw [e]; rfl) | (show [_] = [b2i (letsB v0 v1)]; rw [e]; grind [b2i])
  · have h1 : v0 = 1 ∨ v0 = 2 ∨ v0 = 3 := by omega
    clear hp hr hl
    rcases h1 with rfl | rfl | rfl
    all_goals
      repeat' first | refine And.intro ?_ ?_ | intro _
      all_goals first | omega | (show [_] = [b2i (letsB _ v1)]; simp_all [letsB, b2i]; done) | (show [_] = [b2i (letsB _ v1)]; simp_all [letsB, b2i]; omega))
noncomputable def pPut_t : Tree := .letI (.cmp .eql (.v 0) (.c 0)) (.letI (.cmp .eql (.v 1) (.c 0)) (.letI (.cmp .eql (.v 2) (.c 0)) (.letI (.pick (.v 5) (.c 1) (.c 0)) (.letI (.pick (.v 4) (.v 6) (.c 0)) (.letI (.pick (.v 3) (.v 7) (.c 0)) (.ite (.v 8) (.done [.c (0), .c (1)] []) (.letI (.cmp .lss (.v 0) (.c 0)) (.ite (.v 9) (.done [.c (0), .c (0)] []) (.letI (.cmp .leq (.c 16) (.v 0)) (.ite (.v 10) (.done [.c (0), .c (0)] []) (.letI (.cmp .lss (.v 1) (.c 0)) (.ite (.v 11) (.done [.c (0), .c (0)] []) (.letI (.cmp .leq (.c 8) (.v 1)) (.ite (.v 12) (.done [.c (0), .c (0)] []) (.letI (.cmp .leq (.c 1) (.v 2)) (.ite (.v 13) (.letI (.cmp .leq (.v 2) (.c 3)) (.letI (.not (.v 14)) (.ite (.v 15) (.done [.c (0), .c (0)] []) (.letI (.mul (.c 256) (.v 0)) (.letI (.wr .i64 (.v 16)) (.letI (.add (.c 32768) (.v 17)) (.letI (.wr .i64 (.v 18)) (.letI (.mul (.c 16) (.v 1)) (.letI (.wr .i64 (.v 20)) (.letI (.add (.v 19) (.v 21)) (.letI (.wr .i64 (.v 22)) (.letI (.add (.v 23) (.v 2)) (.letI (.wr .i64 (.v 24)) (.letI (.wr .u64 (.v 25)) (.need .leq (.v 26) (.c 65535) (.done [.v 26, .c (1)] [])))))))))))))))) (.done [.c (0), .c (0)] [])))))))))))))))))
theorem pPut_tree : (L2.put_ L2.f_pte_Put).exe Tryz.prog (L2.cfg Tryz.prog) [] 20 200 = pPut_t := by kernel_rfl
theorem pPut_vc (Q : List Int → List (List Int) → Prop) (v0 v1 v2 : Int) : pPut_t.dn ⟨Q, []⟩ 3 [v2, v1, v0] 0 [] = (∀ v3 : Int, v3 = b2i (v0 == (0 : Int)) → ∀ v4 : Int, v4 = b2i (v1 == (0 : Int)) → ∀ v5 : Int, v5 = b2i (v2 == (0 : Int)) → ∀ v6 : Int, v6 = (if v5 = 0 then (0 : Int) else (1 : Int)) → ∀ v7 : Int, v7 = (if v4 = 0 then (0 : Int) else v6) → ∀ v8 : Int, v8 = (if v3 = 0 then (0 : Int) else v7) → (v8 ≠ 0 → Q [(0 : Int), (1 : Int)] []) ∧
(v8 = 0 → ((v0 < (0 : Int)) → Q [(0 : Int), (0 : Int)] []) ∧
(((0 : Int) ≤ v0) → (((16 : Int) ≤ v0) → Q [(0 : Int), (0 : Int)] []) ∧
((v0 < (16 : Int)) → ((v1 < (0 : Int)) → Q [(0 : Int), (0 : Int)] []) ∧
(((0 : Int) ≤ v1) → (((8 : Int) ≤ v1) → Q [(0 : Int), (0 : Int)] []) ∧
((v1 < (8 : Int)) → (((1 : Int) ≤ v2) → ∀ v14 : Int, v14 = b2i (decide (v2 ≤ (3 : Int))) → ∀ v15 : Int, v15 = b2i (v14 == 0) → (v15 ≠ 0 → Q [(0 : Int), (0 : Int)] []) ∧
(v15 = 0 → ∀ v16 : Int, v16 = (256 : Int) * v0 → ∀ v17 : Int, v17 = IntKind.wrap .i64 v16 → ∀ v18 : Int, v18 = (32768 : Int) + v17 → ∀ v19 : Int, v19 = IntKind.wrap .i64 v18 → ∀ v20 : Int, v20 = (16 : Int) * v1 → ∀ v21 : Int, v21 = IntKind.wrap .i64 v20 → ∀ v22 : Int, v22 = v19 + v21 → ∀ v23 : Int, v23 = IntKind.wrap .i64 v22 → ∀ v24 : Int, v24 = v23 + v2 → ∀ v25 : Int, v25 = IntKind.wrap .i64 v24 → ∀ v26 : Int, v26 = IntKind.wrap .u64 v25 → (v26 ≤ (65535 : Int)) ∧ Q [v26, (1 : Int)] [])) ∧
((v2 < (1 : Int)) → Q [(0 : Int), (0 : Int)] []))))))) := by kernel_rfl
set_option maxHeartbeats 4000000 in
theorem pPut_holds : (L2.put_ L2.f_pte_Put).Holds Tryz.prog L2.ro := FSpec.holdsV (cfg := L2.cfg Tryz.prog) [] 20 200 cfg_ok mixed (t := pPut_t) pPut_tree (by
  show ∀ (v0 v1 v2 : Int) , _
  intro v0 v1 v2  hp hr hl
  replace hr : (((-9223372036854775808) : Int) ≤ v0 ∧ v0 ≤ ((9223372036854775807) : Int)) ∧ (((-9223372036854775808) : Int) ≤ v1 ∧ v1 ≤ ((9223372036854775807) : Int)) ∧ (((-9223372036854775808) : Int) ≤ v2 ∧ v2 ≤ ((9223372036854775807) : Int)) ∧ True := hr
  replace hl : True := hl
  show pPut_t.dn ⟨_, []⟩ 3 [v2, v1, v0] 0 []
  rw [pPut_vc]
  simp only [wrapI, wrapU, b2i]
  repeat' first | refine And.intro ?_ ?_ | intro _
  all_goals first | omega | skip
  all_goals
    first
    | show [_, _] = [pteN v0 v1 v2, b2i (pteOk v0 v1 v2)]
    | skip
  all_goals grind [pteN, pteOk, rightsB, b2i])
end Go.Proofs.YtbpilohnhhbbpaaGreatDoor
/- Contracts: a page table's functions. -/
set_option linter.unusedVariables false
set_option linter.unusedSimpArgs false
open Go Go.Sx
namespace Go.Proofs.YtbpilohnhhbbpaaGreatDoor
set_option maxRecDepth 100000
theorem tt_ok : (withS (L2.cfg Tryz.prog) [L2.put_ L2.f_pte_Put]).Ok Tryz.prog := withS_ok cfg_ok ⟨pPut_holds, trivial⟩
noncomputable def tNew_t : Tree := .letL (.lit [.c (0), .c (0), .c (0), .c (0), .c (0), .c (0), .c (0), .c (0), .c (0), .c (0), .c (0), .c (0), .c (0), .c (0), .c (0), .c (0), .c (0), .c (0), .c (0), .c (0), .c (0), .c (0), .c (0), .c (0)]) (.done [] [0])
theorem tNew_tree : (L2.tNew).exe Tryz.prog (withS (L2.cfg Tryz.prog) [L2.put_ L2.f_pte_Put]) [] 20 200 = tNew_t := by kernel_rfl
theorem tNew_vc (Q : List Int → List (List Int) → Prop) : tNew_t.dn ⟨Q, []⟩ 0 [] 0 [] = (∀ L0 : List Int, L0 = [(0 : Int), (0 : Int), (0 : Int), (0 : Int), (0 : Int), (0 : Int), (0 : Int), (0 : Int), (0 : Int), (0 : Int), (0 : Int), (0 : Int), (0 : Int), (0 : Int), (0 : Int), (0 : Int), (0 : Int), (0 : Int), (0 : Int), (0 : Int), (0 : Int), (0 : Int), (0 : Int), (0 : Int)] → Q [] [L0]) := by kernel_rfl
set_option maxHeartbeats 4000000 in
theorem tNew_holds : (L2.tNew).Holds Tryz.prog L2.ro := FSpec.holdsV (cfg := withS (L2.cfg Tryz.prog) [L2.put_ L2.f_pte_Put]) [] 20 200 tt_ok mixed (t := tNew_t) tNew_tree (by
  show _ → _
  intro   hp hr hl
  replace hr : True := hr
  replace hl : True := hl
  show tNew_t.dn ⟨_, []⟩ 0 [] 0 []
  rw [tNew_vc]
  intro L0 e0
  subst e0
  exact ⟨rfl, rfl⟩)
noncomputable def tInsert_t : Tree := .call 104 (Go.Sx.L2.put_ Go.Sx.L2.f_pte_Put).rel [.v 1, .v 2, .v 3] [] 2 0 (.letI (.not (.v 5)) (.ite (.v 6) (.done [.c (2)] [0]) (.letI (.cmp .eql (.v 3) (.c 0)) (.ite (.v 7) (.done [.c (2)] [0]) (.letI (.cmp .leq (.c 0) (.v 0)) (.ite (.v 8) (.letI (.cmp .lss (.v 0) (.c 8)) (.letI (.not (.v 9)) (.ite (.v 10) (.done [.c (2)] [0]) (.letI (.mul (.v 0) (.c 3)) (.letI (.add (.v 11) (.c 2)) (.letI (.get 0 (.v 12)) (.letI (.cmp .neq (.v 13) (.c 0)) (.ite (.v 14) (.done [.c (4)] [0]) (.letL (.set 0 (.v 11) (.v 1)) (.letI (.add (.v 11) (.c 1)) (.letL (.set 1 (.v 15) (.v 2)) (.letL (.set 2 (.v 12) (.v 3)) (.done [.c (0)] [3]))))))))))))) (.done [.c (2)] [0])))))))
theorem tInsert_tree : (L2.tInsert).exe Tryz.prog (withS (L2.cfg Tryz.prog) [L2.put_ L2.f_pte_Put]) [] 20 200 = tInsert_t := by kernel_rfl
theorem tInsert_vc (Q : List Int → List (List Int) → Prop) (v0 v1 v2 v3 : Int) (L0 : List Int) : tInsert_t.dn ⟨Q, []⟩ 4 [v3, v2, v1, v0] 1 [L0] = ((Go.Sx.L2.put_ Go.Sx.L2.f_pte_Put).rel.pre [v1, v2, v3] [] ∧
(∀ v4 : Int, ∀ v5 : Int, (Go.Sx.L2.put_ Go.Sx.L2.f_pte_Put).rel.post [v1, v2, v3] [] [v4, v5] [] → ∀ v6 : Int, v6 = b2i (v5 == 0) → (v6 ≠ 0 → Q [(2 : Int)] [L0]) ∧
(v6 = 0 → ((v3 = (0 : Int)) → Q [(2 : Int)] [L0]) ∧
((v3 ≠ (0 : Int)) → (((0 : Int) ≤ v0) → ∀ v9 : Int, v9 = b2i (decide (v0 < (8 : Int))) → ∀ v10 : Int, v10 = b2i (v9 == 0) → (v10 ≠ 0 → Q [(2 : Int)] [L0]) ∧
(v10 = 0 → ∀ v11 : Int, v11 = v0 * (3 : Int) → ∀ v12 : Int, v12 = v11 + (2 : Int) → ∀ v13 : Int, v13 = (L0).getD (v12).toNat 0 → ((v13 ≠ (0 : Int)) → Q [(4 : Int)] [L0]) ∧
((v13 = (0 : Int)) → ∀ L1 : List Int, L1 = (L0).set (v11).toNat v1 → ∀ v15 : Int, v15 = v11 + (1 : Int) → ∀ L2 : List Int, L2 = (L1).set (v15).toNat v2 → ∀ L3 : List Int, L3 = (L2).set (v12).toNat v3 → Q [(0 : Int)] [L3]))) ∧
((v0 < (0 : Int)) → Q [(2 : Int)] [L0]))))) := by kernel_rfl
set_option maxHeartbeats 4000000 in
theorem tInsert_holds : (L2.tInsert).Holds Tryz.prog L2.ro := FSpec.holdsV (cfg := withS (L2.cfg Tryz.prog) [L2.put_ L2.f_pte_Put]) [] 20 200 tt_ok mixed (t := tInsert_t) tInsert_tree (by
  show ∀ (v0 v1 v2 v3 : Int) (L0 : List Int), _
  intro v0 v1 v2 v3 L0 hp hr hl
  replace hr : (((-9223372036854775808) : Int) ≤ v0 ∧ v0 ≤ ((9223372036854775807) : Int)) ∧ (((-9223372036854775808) : Int) ≤ v1 ∧ v1 ≤ ((9223372036854775807) : Int)) ∧ (((-9223372036854775808) : Int) ≤ v2 ∧ v2 ≤ ((9223372036854775807) : Int)) ∧ (((-9223372036854775808) : Int) ≤ v3 ∧ v3 ≤ ((9223372036854775807) : Int)) ∧ True := hr
  replace hl : (∀ x ∈ L0, (((-9223372036854775808) : Int) ≤ x ∧ x ≤ ((9223372036854775807) : Int))) ∧ True := hl
  show tInsert_t.dn ⟨_, []⟩ 4 [v3, v2, v1, v0] 1 [L0]
  rw [tInsert_vc]
  simp only [fnSpec_post, fnSpec_pre, true_and, List.cons.injEq, and_true, List.getD_cons_zero, List.getD_cons_succ, and_imp, forall_eq, b2i_zero, b2i_eq, ne_eq, Bool.not_eq_false, Bool.not_eq_true', Bool.not_eq_false', decide_eq_true_eq, decide_eq_false_iff_not, Int.not_lt, Int.not_le]
  repeat' first | refine And.intro ?_ ?_ | intro _
  all_goals clear hr hl hp
  all_goals first | grind [insE, pageOk, tG, b2i] | grind [insL, insE, pageOk, tG, tSet3, b2i])
noncomputable def tAt_t : Tree := .letI (.cmp .leq (.c 0) (.v 0)) (.ite (.v 1) (.letI (.cmp .lss (.v 0) (.c 8)) (.letI (.not (.v 2)) (.ite (.v 3) (.done [.c (0), .c (0), .c (0), .c (0)] []) (.letI (.mul (.v 0) (.c 3)) (.letI (.add (.v 4) (.c 2)) (.letI (.get 0 (.v 5)) (.letI (.cmp .eql (.v 6) (.c 0)) (.ite (.v 7) (.done [.c (0), .c (0), .c (0), .c (0)] []) (.letI (.get 0 (.v 4)) (.letI (.add (.v 4) (.c 1)) (.letI (.get 0 (.v 9)) (.done [.v 8, .v 10, .v 6, .c (1)] [])))))))))))) (.done [.c (0), .c (0), .c (0), .c (0)] []))
theorem tAt_tree : (L2.tAt).exe Tryz.prog (withS (L2.cfg Tryz.prog) [L2.put_ L2.f_pte_Put]) [] 20 200 = tAt_t := by kernel_rfl
theorem tAt_vc (Q : List Int → List (List Int) → Prop) (v0 : Int) (L0 : List Int) : tAt_t.dn ⟨Q, []⟩ 1 [v0] 1 [L0] = ((((0 : Int) ≤ v0) → ∀ v2 : Int, v2 = b2i (decide (v0 < (8 : Int))) → ∀ v3 : Int, v3 = b2i (v2 == 0) → (v3 ≠ 0 → Q [(0 : Int), (0 : Int), (0 : Int), (0 : Int)] []) ∧
(v3 = 0 → ∀ v4 : Int, v4 = v0 * (3 : Int) → ∀ v5 : Int, v5 = v4 + (2 : Int) → ∀ v6 : Int, v6 = (L0).getD (v5).toNat 0 → ((v6 = (0 : Int)) → Q [(0 : Int), (0 : Int), (0 : Int), (0 : Int)] []) ∧
((v6 ≠ (0 : Int)) → ∀ v8 : Int, v8 = (L0).getD (v4).toNat 0 → ∀ v9 : Int, v9 = v4 + (1 : Int) → ∀ v10 : Int, v10 = (L0).getD (v9).toNat 0 → Q [v8, v10, v6, (1 : Int)] []))) ∧
((v0 < (0 : Int)) → Q [(0 : Int), (0 : Int), (0 : Int), (0 : Int)] [])) := by kernel_rfl
set_option maxHeartbeats 4000000 in
theorem tAt_holds : (L2.tAt).Holds Tryz.prog L2.ro := FSpec.holdsV (cfg := withS (L2.cfg Tryz.prog) [L2.put_ L2.f_pte_Put]) [] 20 200 tt_ok mixed (t := tAt_t) tAt_tree (by
  show ∀ (v0 : Int) (L0 : List Int), _
  intro v0 L0 hp hr hl
  replace hr : (((-9223372036854775808) : Int) ≤ v0 ∧ v0 ≤ ((9223372036854775807) : Int)) ∧ True := hr
  replace hl : (∀ x ∈ L0, (((-9223372036854775808) : Int) ≤ x ∧ x ≤ ((9223372036854775807) : Int))) ∧ True := hl
  show tAt_t.dn ⟨_, []⟩ 1 [v0] 1 [L0]
  rw [tAt_vc]
  simp only [fnSpec_post, fnSpec_pre, true_and, List.cons.injEq, and_true, List.getD_cons_zero, List.getD_cons_succ, and_imp, forall_eq, b2i_zero, b2i_eq, ne_eq, Bool.not_eq_false, Bool.not_eq_true', Bool.not_eq_false', decide_eq_true_eq, decide_eq_false_iff_not, Int.not_lt, Int.not_le]
  repeat' first | refine And.intro ?_ ?_ | intro _
  all_goals clear hr hl hp
  all_goals grind [atOk, atV, pageOk, tG, b2i])
end Go.Proofs.YtbpilohnhhbbpaaGreatDoor
/- Contracts: a buffer's functions. -/
set_option linter.unusedVariables false
set_option linter.unusedSimpArgs false
open Go Go.Sx
namespace Go.Proofs.YtbpilohnhhbbpaaGreatDoor
set_option maxRecDepth 100000
noncomputable def bNew_t : Tree := .letL (.lit [.c (-1), .c (0), .c (0), .c (0), .c (0), .c (-1), .c (0), .c (0), .c (0), .c (0), .c (-1), .c (0), .c (0), .c (0), .c (0), .c (-1), .c (0), .c (0), .c (0), .c (0), .c (-1), .c (0), .c (0), .c (0), .c (0), .c (-1), .c (0), .c (0), .c (0), .c (0), .c (-1), .c (0), .c (0), .c (0), .c (0), .c (-1), .c (0), .c (0), .c (0), .c (0), .c (0)]) (.done [] [0])
theorem bNew_tree : (L2.bNew).exe Tryz.prog (L2.cfg Tryz.prog) [] 20 200 = bNew_t := by kernel_rfl
theorem bNew_vc (Q : List Int → List (List Int) → Prop) : bNew_t.dn ⟨Q, []⟩ 0 [] 0 [] = (∀ L0 : List Int, L0 = [((-1) : Int), (0 : Int), (0 : Int), (0 : Int), (0 : Int), ((-1) : Int), (0 : Int), (0 : Int), (0 : Int), (0 : Int), ((-1) : Int), (0 : Int), (0 : Int), (0 : Int), (0 : Int), ((-1) : Int), (0 : Int), (0 : Int), (0 : Int), (0 : Int), ((-1) : Int), (0 : Int), (0 : Int), (0 : Int), (0 : Int), ((-1) : Int), (0 : Int), (0 : Int), (0 : Int), (0 : Int), ((-1) : Int), (0 : Int), (0 : Int), (0 : Int), (0 : Int), ((-1) : Int), (0 : Int), (0 : Int), (0 : Int), (0 : Int), (0 : Int)] → Q [] [L0]) := by kernel_rfl
set_option maxHeartbeats 4000000 in
theorem bNew_holds : (L2.bNew).Holds Tryz.prog L2.ro := FSpec.holdsV (cfg := L2.cfg Tryz.prog) [] 20 200 cfg_ok mixed (t := bNew_t) bNew_tree (by
  show _ → _
  intro   hp hr hl
  replace hr : True := hr
  replace hl : True := hl
  show bNew_t.dn ⟨_, []⟩ 0 [] 0 []
  rw [bNew_vc]
  intro L0 e0
  subst e0
  exact ⟨rfl, rfl⟩)
noncomputable def bFind_t : Tree := .letI (.cmp .lss (.v 0) (.c 0)) (.ite (.v 2) (.done [.c (0), .c (0), .c (0), .c (0), .c (0)] []) (.letI (.cmp .lss (.v 1) (.c 0)) (.ite (.v 3) (.done [.c (0), .c (0), .c (0), .c (0), .c (0)] []) (.letI (.cmp .leq (.c 8) (.v 1)) (.ite (.v 4) (.done [.c (0), .c (0), .c (0), .c (0), .c (0)] []) (.letI (.rem (.v 1) (.c 4)) (.letI (.mul (.v 5) (.c 10)) (.letI (.get 0 (.v 6)) (.letI (.cmp .eql (.v 0) (.v 7)) (.ite (.v 8) (.letI (.add (.v 6) (.c 1)) (.letI (.get 0 (.v 9)) (.letI (.cmp .eql (.v 1) (.v 10)) (.ite (.v 11) (.letI (.add (.v 6) (.c 2)) (.letI (.get 0 (.v 12)) (.letI (.add (.v 6) (.c 3)) (.letI (.get 0 (.v 14)) (.done [.v 7, .v 10, .v 13, .v 15, .c (1)] []))))) (.letI (.add (.v 6) (.c 5)) (.letI (.get 0 (.v 12)) (.letI (.cmp .eql (.v 0) (.v 13)) (.ite (.v 14) (.letI (.add (.v 12) (.c 1)) (.letI (.get 0 (.v 15)) (.letI (.cmp .eql (.v 1) (.v 16)) (.ite (.v 17) (.letI (.add (.v 12) (.c 2)) (.letI (.get 0 (.v 18)) (.letI (.add (.v 12) (.c 3)) (.letI (.get 0 (.v 20)) (.done [.v 13, .v 16, .v 19, .v 21, .c (1)] []))))) (.done [.c (0), .c (0), .c (0), .c (0), .c (0)] []))))) (.done [.c (0), .c (0), .c (0), .c (0), .c (0)] []))))))))) (.letI (.add (.v 6) (.c 5)) (.letI (.get 0 (.v 9)) (.letI (.cmp .eql (.v 0) (.v 10)) (.ite (.v 11) (.letI (.add (.v 9) (.c 1)) (.letI (.get 0 (.v 12)) (.letI (.cmp .eql (.v 1) (.v 13)) (.ite (.v 14) (.letI (.add (.v 9) (.c 2)) (.letI (.get 0 (.v 15)) (.letI (.add (.v 9) (.c 3)) (.letI (.get 0 (.v 17)) (.done [.v 10, .v 13, .v 16, .v 18, .c (1)] []))))) (.done [.c (0), .c (0), .c (0), .c (0), .c (0)] []))))) (.done [.c (0), .c (0), .c (0), .c (0), .c (0)] [])))))))))))))))
theorem bFind_tree : (L2.bFind).exe Tryz.prog (L2.cfg Tryz.prog) [] 20 200 = bFind_t := by kernel_rfl
theorem bFind_vc (Q : List Int → List (List Int) → Prop) (v0 v1 : Int) (L0 : List Int) : bFind_t.dn ⟨Q, []⟩ 2 [v1, v0] 1 [L0] = (((v0 < (0 : Int)) → Q [(0 : Int), (0 : Int), (0 : Int), (0 : Int), (0 : Int)] []) ∧
(((0 : Int) ≤ v0) → ((v1 < (0 : Int)) → Q [(0 : Int), (0 : Int), (0 : Int), (0 : Int), (0 : Int)] []) ∧
(((0 : Int) ≤ v1) → (((8 : Int) ≤ v1) → Q [(0 : Int), (0 : Int), (0 : Int), (0 : Int), (0 : Int)] []) ∧
((v1 < (8 : Int)) → ∀ v5 : Int, v5 = (v1).tmod (4 : Int) → ∀ v6 : Int, v6 = v5 * (10 : Int) → ∀ v7 : Int, v7 = (L0).getD (v6).toNat 0 → ((v0 = v7) → ∀ v9 : Int, v9 = v6 + (1 : Int) → ∀ v10 : Int, v10 = (L0).getD (v9).toNat 0 → ((v1 = v10) → ∀ v12 : Int, v12 = v6 + (2 : Int) → ∀ v13 : Int, v13 = (L0).getD (v12).toNat 0 → ∀ v14 : Int, v14 = v6 + (3 : Int) → ∀ v15 : Int, v15 = (L0).getD (v14).toNat 0 → Q [v7, v10, v13, v15, (1 : Int)] []) ∧
((v1 ≠ v10) → ∀ v12 : Int, v12 = v6 + (5 : Int) → ∀ v13 : Int, v13 = (L0).getD (v12).toNat 0 → ((v0 = v13) → ∀ v15 : Int, v15 = v12 + (1 : Int) → ∀ v16 : Int, v16 = (L0).getD (v15).toNat 0 → ((v1 = v16) → ∀ v18 : Int, v18 = v12 + (2 : Int) → ∀ v19 : Int, v19 = (L0).getD (v18).toNat 0 → ∀ v20 : Int, v20 = v12 + (3 : Int) → ∀ v21 : Int, v21 = (L0).getD (v20).toNat 0 → Q [v13, v16, v19, v21, (1 : Int)] []) ∧
((v1 ≠ v16) → Q [(0 : Int), (0 : Int), (0 : Int), (0 : Int), (0 : Int)] [])) ∧
((v0 ≠ v13) → Q [(0 : Int), (0 : Int), (0 : Int), (0 : Int), (0 : Int)] []))) ∧
((v0 ≠ v7) → ∀ v9 : Int, v9 = v6 + (5 : Int) → ∀ v10 : Int, v10 = (L0).getD (v9).toNat 0 → ((v0 = v10) → ∀ v12 : Int, v12 = v9 + (1 : Int) → ∀ v13 : Int, v13 = (L0).getD (v12).toNat 0 → ((v1 = v13) → ∀ v15 : Int, v15 = v9 + (2 : Int) → ∀ v16 : Int, v16 = (L0).getD (v15).toNat 0 → ∀ v17 : Int, v17 = v9 + (3 : Int) → ∀ v18 : Int, v18 = (L0).getD (v17).toNat 0 → Q [v10, v13, v16, v18, (1 : Int)] []) ∧
((v1 ≠ v13) → Q [(0 : Int), (0 : Int), (0 : Int), (0 : Int), (0 : Int)] [])) ∧
((v0 ≠ v10) → Q [(0 : Int), (0 : Int), (0 : Int), (0 : Int), (0 : Int)] [])))))) := by kernel_rfl
set_option maxHeartbeats 4000000 in
theorem bFind_holds : (L2.bFind).Holds Tryz.prog L2.ro := FSpec.holdsV (cfg := L2.cfg Tryz.prog) [] 20 200 cfg_ok mixed (t := bFind_t) bFind_tree (by
  show ∀ (v0 v1 : Int) (L0 : List Int), _
  intro v0 v1 L0 hp hr hl
  replace hr : (((-9223372036854775808) : Int) ≤ v0 ∧ v0 ≤ ((9223372036854775807) : Int)) ∧ (((-9223372036854775808) : Int) ≤ v1 ∧ v1 ≤ ((9223372036854775807) : Int)) ∧ True := hr
  replace hl : (∀ x ∈ L0, (((-9223372036854775808) : Int) ≤ x ∧ x ≤ ((9223372036854775807) : Int))) ∧ True := hl
  show bFind_t.dn ⟨_, []⟩ 2 [v1, v0] 1 [L0]
  rw [bFind_vc]
  have tm : 0 ≤ v1 → v1.tmod 4 = v1 % 4 := fun h => Int.tmod_eq_emod_of_nonneg h
  simp only [fnSpec_post, fnSpec_pre, true_and, List.cons.injEq, and_true, List.getD_cons_zero, List.getD_cons_succ, and_imp, forall_eq, b2i_zero, b2i_eq, ne_eq, Bool.not_eq_false, Bool.not_eq_true', Bool.not_eq_false', decide_eq_true_eq, decide_eq_false_iff_not, Int.not_lt, Int.not_le]
  repeat' first | refine And.intro ?_ ?_ | intro _
  all_goals clear hr hl hp
  all_goals first | omega | skip
  all_goals grind [findB, atB, hitB, baseB, gI, b2i])
noncomputable def bFill_t : Tree := .letI (.cmp .lss (.v 0) (.c 0)) (.ite (.v 4) (.done [.c (0)] [0]) (.letI (.cmp .leq (.c 4) (.v 0)) (.ite (.v 5) (.done [.c (0)] [0]) (.letI (.cmp .lss (.v 1) (.c 0)) (.ite (.v 6) (.done [.c (0)] [0]) (.letI (.cmp .leq (.c 8) (.v 1)) (.ite (.v 7) (.done [.c (0)] [0]) (.letI (.cmp .lss (.v 2) (.c 0)) (.ite (.v 8) (.done [.c (0)] [0]) (.letI (.cmp .leq (.c 16) (.v 2)) (.ite (.v 9) (.done [.c (0)] [0]) (.letI (.cmp .leq (.c 1) (.v 3)) (.ite (.v 10) (.letI (.cmp .leq (.v 3) (.c 3)) (.letI (.not (.v 11)) (.ite (.v 12) (.done [.c (0)] [0]) (.letI (.rem (.v 1) (.c 4)) (.letI (.mul (.v 13) (.c 10)) (.letI (.get 0 (.v 14)) (.letI (.cmp .eql (.v 0) (.v 15)) (.ite (.v 16) (.letI (.add (.v 14) (.c 1)) (.letI (.get 0 (.v 17)) (.letI (.cmp .eql (.v 1) (.v 18)) (.ite (.v 19) (.letI (.get 0 (.c 40)) (.letI (.add (.v 20) (.c 1)) (.letI (.wr .i64 (.v 21)) (.letL (.set 0 (.c 40) (.v 22)) (.letI (.get 1 (.c 40)) (.letL (.set 1 (.v 14) (.v 0)) (.letL (.set 2 (.v 17) (.v 1)) (.letI (.add (.v 14) (.c 2)) (.letL (.set 3 (.v 24) (.v 2)) (.letI (.add (.v 14) (.c 3)) (.letL (.set 4 (.v 25) (.v 3)) (.letI (.add (.v 14) (.c 4)) (.letL (.set 5 (.v 26) (.v 23)) (.done [.c (1)] [6])))))))))))))) (.letI (.add (.v 14) (.c 5)) (.letI (.get 0 (.v 20)) (.letI (.cmp .eql (.v 0) (.v 21)) (.ite (.v 22) (.letI (.add (.v 20) (.c 1)) (.letI (.get 0 (.v 23)) (.letI (.cmp .eql (.v 1) (.v 24)) (.ite (.v 25) (.letI (.get 0 (.c 40)) (.letI (.add (.v 26) (.c 1)) (.letI (.wr .i64 (.v 27)) (.letL (.set 0 (.c 40) (.v 28)) (.letI (.get 1 (.c 40)) (.letL (.set 1 (.v 20) (.v 0)) (.letL (.set 2 (.v 23) (.v 1)) (.letI (.add (.v 20) (.c 2)) (.letL (.set 3 (.v 30) (.v 2)) (.letI (.add (.v 20) (.c 3)) (.letL (.set 4 (.v 31) (.v 3)) (.letI (.add (.v 20) (.c 4)) (.letL (.set 5 (.v 32) (.v 29)) (.done [.c (1)] [6])))))))))))))) (.both (.letI (.add (.v 20) (.c 4)) (.letI (.get 0 (.v 26)) (.letI (.add (.v 14) (.c 4)) (.letI (.get 0 (.v 28)) (.letI (.cmp .lss (.v 27) (.v 29)) (.ite (.v 30) (.letI (.get 0 (.c 40)) (.letI (.add (.v 31) (.c 1)) (.letI (.wr .i64 (.v 32)) (.letL (.set 0 (.c 40) (.v 33)) (.letI (.get 1 (.c 40)) (.letL (.set 1 (.v 20) (.v 0)) (.letL (.set 2 (.v 23) (.v 1)) (.letI (.add (.v 20) (.c 2)) (.letL (.set 3 (.v 35) (.v 2)) (.letI (.add (.v 20) (.c 3)) (.letL (.set 4 (.v 36) (.v 3)) (.letL (.set 5 (.v 26) (.v 34)) (.done [.c (1)] [6]))))))))))))) (.letI (.get 0 (.c 40)) (.letI (.add (.v 31) (.c 1)) (.letI (.wr .i64 (.v 32)) (.letL (.set 0 (.c 40) (.v 33)) (.letI (.get 1 (.c 40)) (.letL (.set 1 (.v 14) (.v 0)) (.letL (.set 2 (.v 17) (.v 1)) (.letI (.add (.v 14) (.c 2)) (.letL (.set 3 (.v 35) (.v 2)) (.letI (.add (.v 14) (.c 3)) (.letL (.set 4 (.v 36) (.v 3)) (.letL (.set 5 (.v 28) (.v 34)) (.done [.c (1)] [6]))))))))))))))))))) (.letI (.add (.v 20) (.c 4)) (.letI (.get 0 (.v 26)) (.letI (.add (.v 14) (.c 4)) (.letI (.get 0 (.v 28)) (.letI (.cmp .lss (.v 27) (.v 29)) (.ite (.v 30) (.letI (.get 0 (.c 40)) (.letI (.add (.v 31) (.c 1)) (.letI (.wr .i64 (.v 32)) (.letL (.set 0 (.c 40) (.v 33)) (.letI (.get 1 (.c 40)) (.letL (.set 1 (.v 20) (.v 0)) (.letL (.set 2 (.v 23) (.v 1)) (.letI (.add (.v 20) (.c 2)) (.letL (.set 3 (.v 35) (.v 2)) (.letI (.add (.v 20) (.c 3)) (.letL (.set 4 (.v 36) (.v 3)) (.letL (.set 5 (.v 26) (.v 34)) (.done [.c (1)] [6]))))))))))))) (.letI (.get 0 (.c 40)) (.letI (.add (.v 31) (.c 1)) (.letI (.wr .i64 (.v 32)) (.letL (.set 0 (.c 40) (.v 33)) (.letI (.get 1 (.c 40)) (.letL (.set 1 (.v 14) (.v 0)) (.letL (.set 2 (.v 17) (.v 1)) (.letI (.add (.v 14) (.c 2)) (.letL (.set 3 (.v 35) (.v 2)) (.letI (.add (.v 14) (.c 3)) (.letL (.set 4 (.v 36) (.v 3)) (.letL (.set 5 (.v 28) (.v 34)) (.done [.c (1)] [6])))))))))))))))))))))))) (.both (.letI (.cmp .lss (.v 21) (.c 0)) (.ite (.v 23) (.letI (.get 0 (.c 40)) (.letI (.add (.v 24) (.c 1)) (.letI (.wr .i64 (.v 25)) (.letL (.set 0 (.c 40) (.v 26)) (.letI (.get 1 (.c 40)) (.letL (.set 1 (.v 20) (.v 0)) (.letI (.add (.v 20) (.c 1)) (.letL (.set 2 (.v 28) (.v 1)) (.letI (.add (.v 20) (.c 2)) (.letL (.set 3 (.v 29) (.v 2)) (.letI (.add (.v 20) (.c 3)) (.letL (.set 4 (.v 30) (.v 3)) (.letI (.add (.v 20) (.c 4)) (.letL (.set 5 (.v 31) (.v 27)) (.done [.c (1)] [6]))))))))))))))) (.letI (.add (.v 20) (.c 4)) (.letI (.get 0 (.v 24)) (.letI (.add (.v 14) (.c 4)) (.letI (.get 0 (.v 26)) (.letI (.cmp .lss (.v 25) (.v 27)) (.ite (.v 28) (.letI (.get 0 (.c 40)) (.letI (.add (.v 29) (.c 1)) (.letI (.wr .i64 (.v 30)) (.letL (.set 0 (.c 40) (.v 31)) (.letI (.get 1 (.c 40)) (.letL (.set 1 (.v 20) (.v 0)) (.letI (.add (.v 20) (.c 1)) (.letL (.set 2 (.v 33) (.v 1)) (.letI (.add (.v 20) (.c 2)) (.letL (.set 3 (.v 34) (.v 2)) (.letI (.add (.v 20) (.c 3)) (.letL (.set 4 (.v 35) (.v 3)) (.letL (.set 5 (.v 24) (.v 32)) (.done [.c (1)] [6])))))))))))))) (.letI (.get 0 (.c 40)) (.letI (.add (.v 29) (.c 1)) (.letI (.wr .i64 (.v 30)) (.letL (.set 0 (.c 40) (.v 31)) (.letI (.get 1 (.c 40)) (.letL (.set 1 (.v 14) (.v 0)) (.letL (.set 2 (.v 17) (.v 1)) (.letI (.add (.v 14) (.c 2)) (.letL (.set 3 (.v 33) (.v 2)) (.letI (.add (.v 14) (.c 3)) (.letL (.set 4 (.v 34) (.v 3)) (.letL (.set 5 (.v 26) (.v 32)) (.done [.c (1)] [6]))))))))))))))))))))) (.letI (.cmp .lss (.v 21) (.c 0)) (.ite (.v 23) (.letI (.get 0 (.c 40)) (.letI (.add (.v 24) (.c 1)) (.letI (.wr .i64 (.v 25)) (.letL (.set 0 (.c 40) (.v 26)) (.letI (.get 1 (.c 40)) (.letL (.set 1 (.v 20) (.v 0)) (.letI (.add (.v 20) (.c 1)) (.letL (.set 2 (.v 28) (.v 1)) (.letI (.add (.v 20) (.c 2)) (.letL (.set 3 (.v 29) (.v 2)) (.letI (.add (.v 20) (.c 3)) (.letL (.set 4 (.v 30) (.v 3)) (.letI (.add (.v 20) (.c 4)) (.letL (.set 5 (.v 31) (.v 27)) (.done [.c (1)] [6]))))))))))))))) (.letI (.add (.v 20) (.c 4)) (.letI (.get 0 (.v 24)) (.letI (.add (.v 14) (.c 4)) (.letI (.get 0 (.v 26)) (.letI (.cmp .lss (.v 25) (.v 27)) (.ite (.v 28) (.letI (.get 0 (.c 40)) (.letI (.add (.v 29) (.c 1)) (.letI (.wr .i64 (.v 30)) (.letL (.set 0 (.c 40) (.v 31)) (.letI (.get 1 (.c 40)) (.letL (.set 1 (.v 20) (.v 0)) (.letI (.add (.v 20) (.c 1)) (.letL (.set 2 (.v 33) (.v 1)) (.letI (.add (.v 20) (.c 2)) (.letL (.set 3 (.v 34) (.v 2)) (.letI (.add (.v 20) (.c 3)) (.letL (.set 4 (.v 35) (.v 3)) (.letL (.set 5 (.v 24) (.v 32)) (.done [.c (1)] [6])))))))))))))) (.letI (.get 0 (.c 40)) (.letI (.add (.v 29) (.c 1)) (.letI (.wr .i64 (.v 30)) (.letL (.set 0 (.c 40) (.v 31)) (.letI (.get 1 (.c 40)) (.letL (.set 1 (.v 14) (.v 0)) (.letL (.set 2 (.v 17) (.v 1)) (.letI (.add (.v 14) (.c 2)) (.letL (.set 3 (.v 33) (.v 2)) (.letI (.add (.v 14) (.c 3)) (.letL (.set 4 (.v 34) (.v 3)) (.letL (.set 5 (.v 26) (.v 32)) (.done [.c (1)] [6])))))))))))))))))))))))))))))) (.letI (.add (.v 14) (.c 5)) (.letI (.get 0 (.v 17)) (.letI (.cmp .eql (.v 0) (.v 18)) (.ite (.v 19) (.letI (.add (.v 17) (.c 1)) (.letI (.get 0 (.v 20)) (.letI (.cmp .eql (.v 1) (.v 21)) (.ite (.v 22) (.letI (.get 0 (.c 40)) (.letI (.add (.v 23) (.c 1)) (.letI (.wr .i64 (.v 24)) (.letL (.set 0 (.c 40) (.v 25)) (.letI (.get 1 (.c 40)) (.letL (.set 1 (.v 17) (.v 0)) (.letL (.set 2 (.v 20) (.v 1)) (.letI (.add (.v 17) (.c 2)) (.letL (.set 3 (.v 27) (.v 2)) (.letI (.add (.v 17) (.c 3)) (.letL (.set 4 (.v 28) (.v 3)) (.letI (.add (.v 17) (.c 4)) (.letL (.set 5 (.v 29) (.v 26)) (.done [.c (1)] [6])))))))))))))) (.letI (.cmp .lss (.v 15) (.c 0)) (.ite (.v 23) (.letI (.get 0 (.c 40)) (.letI (.add (.v 24) (.c 1)) (.letI (.wr .i64 (.v 25)) (.letL (.set 0 (.c 40) (.v 26)) (.letI (.get 1 (.c 40)) (.letL (.set 1 (.v 14) (.v 0)) (.letI (.add (.v 14) (.c 1)) (.letL (.set 2 (.v 28) (.v 1)) (.letI (.add (.v 14) (.c 2)) (.letL (.set 3 (.v 29) (.v 2)) (.letI (.add (.v 14) (.c 3)) (.letL (.set 4 (.v 30) (.v 3)) (.letI (.add (.v 14) (.c 4)) (.letL (.set 5 (.v 31) (.v 27)) (.done [.c (1)] [6]))))))))))))))) (.both (.letI (.add (.v 17) (.c 4)) (.letI (.get 0 (.v 24)) (.letI (.add (.v 14) (.c 4)) (.letI (.get 0 (.v 26)) (.letI (.cmp .lss (.v 25) (.v 27)) (.ite (.v 28) (.letI (.get 0 (.c 40)) (.letI (.add (.v 29) (.c 1)) (.letI (.wr .i64 (.v 30)) (.letL (.set 0 (.c 40) (.v 31)) (.letI (.get 1 (.c 40)) (.letL (.set 1 (.v 17) (.v 0)) (.letL (.set 2 (.v 20) (.v 1)) (.letI (.add (.v 17) (.c 2)) (.letL (.set 3 (.v 33) (.v 2)) (.letI (.add (.v 17) (.c 3)) (.letL (.set 4 (.v 34) (.v 3)) (.letL (.set 5 (.v 24) (.v 32)) (.done [.c (1)] [6]))))))))))))) (.letI (.get 0 (.c 40)) (.letI (.add (.v 29) (.c 1)) (.letI (.wr .i64 (.v 30)) (.letL (.set 0 (.c 40) (.v 31)) (.letI (.get 1 (.c 40)) (.letL (.set 1 (.v 14) (.v 0)) (.letI (.add (.v 14) (.c 1)) (.letL (.set 2 (.v 33) (.v 1)) (.letI (.add (.v 14) (.c 2)) (.letL (.set 3 (.v 34) (.v 2)) (.letI (.add (.v 14) (.c 3)) (.letL (.set 4 (.v 35) (.v 3)) (.letL (.set 5 (.v 26) (.v 32)) (.done [.c (1)] [6])))))))))))))))))))) (.letI (.add (.v 17) (.c 4)) (.letI (.get 0 (.v 24)) (.letI (.add (.v 14) (.c 4)) (.letI (.get 0 (.v 26)) (.letI (.cmp .lss (.v 25) (.v 27)) (.ite (.v 28) (.letI (.get 0 (.c 40)) (.letI (.add (.v 29) (.c 1)) (.letI (.wr .i64 (.v 30)) (.letL (.set 0 (.c 40) (.v 31)) (.letI (.get 1 (.c 40)) (.letL (.set 1 (.v 17) (.v 0)) (.letL (.set 2 (.v 20) (.v 1)) (.letI (.add (.v 17) (.c 2)) (.letL (.set 3 (.v 33) (.v 2)) (.letI (.add (.v 17) (.c 3)) (.letL (.set 4 (.v 34) (.v 3)) (.letL (.set 5 (.v 24) (.v 32)) (.done [.c (1)] [6]))))))))))))) (.letI (.get 0 (.c 40)) (.letI (.add (.v 29) (.c 1)) (.letI (.wr .i64 (.v 30)) (.letL (.set 0 (.c 40) (.v 31)) (.letI (.get 1 (.c 40)) (.letL (.set 1 (.v 14) (.v 0)) (.letI (.add (.v 14) (.c 1)) (.letL (.set 2 (.v 33) (.v 1)) (.letI (.add (.v 14) (.c 2)) (.letL (.set 3 (.v 34) (.v 2)) (.letI (.add (.v 14) (.c 3)) (.letL (.set 4 (.v 35) (.v 3)) (.letL (.set 5 (.v 26) (.v 32)) (.done [.c (1)] [6]))))))))))))))))))))))))))) (.letI (.cmp .lss (.v 15) (.c 0)) (.ite (.v 20) (.letI (.get 0 (.c 40)) (.letI (.add (.v 21) (.c 1)) (.letI (.wr .i64 (.v 22)) (.letL (.set 0 (.c 40) (.v 23)) (.letI (.get 1 (.c 40)) (.letL (.set 1 (.v 14) (.v 0)) (.letI (.add (.v 14) (.c 1)) (.letL (.set 2 (.v 25) (.v 1)) (.letI (.add (.v 14) (.c 2)) (.letL (.set 3 (.v 26) (.v 2)) (.letI (.add (.v 14) (.c 3)) (.letL (.set 4 (.v 27) (.v 3)) (.letI (.add (.v 14) (.c 4)) (.letL (.set 5 (.v 28) (.v 24)) (.done [.c (1)] [6]))))))))))))))) (.both (.letI (.cmp .lss (.v 18) (.c 0)) (.ite (.v 21) (.letI (.get 0 (.c 40)) (.letI (.add (.v 22) (.c 1)) (.letI (.wr .i64 (.v 23)) (.letL (.set 0 (.c 40) (.v 24)) (.letI (.get 1 (.c 40)) (.letL (.set 1 (.v 17) (.v 0)) (.letI (.add (.v 17) (.c 1)) (.letL (.set 2 (.v 26) (.v 1)) (.letI (.add (.v 17) (.c 2)) (.letL (.set 3 (.v 27) (.v 2)) (.letI (.add (.v 17) (.c 3)) (.letL (.set 4 (.v 28) (.v 3)) (.letI (.add (.v 17) (.c 4)) (.letL (.set 5 (.v 29) (.v 25)) (.done [.c (1)] [6]))))))))))))))) (.letI (.add (.v 17) (.c 4)) (.letI (.get 0 (.v 22)) (.letI (.add (.v 14) (.c 4)) (.letI (.get 0 (.v 24)) (.letI (.cmp .lss (.v 23) (.v 25)) (.ite (.v 26) (.letI (.get 0 (.c 40)) (.letI (.add (.v 27) (.c 1)) (.letI (.wr .i64 (.v 28)) (.letL (.set 0 (.c 40) (.v 29)) (.letI (.get 1 (.c 40)) (.letL (.set 1 (.v 17) (.v 0)) (.letI (.add (.v 17) (.c 1)) (.letL (.set 2 (.v 31) (.v 1)) (.letI (.add (.v 17) (.c 2)) (.letL (.set 3 (.v 32) (.v 2)) (.letI (.add (.v 17) (.c 3)) (.letL (.set 4 (.v 33) (.v 3)) (.letL (.set 5 (.v 22) (.v 30)) (.done [.c (1)] [6])))))))))))))) (.letI (.get 0 (.c 40)) (.letI (.add (.v 27) (.c 1)) (.letI (.wr .i64 (.v 28)) (.letL (.set 0 (.c 40) (.v 29)) (.letI (.get 1 (.c 40)) (.letL (.set 1 (.v 14) (.v 0)) (.letI (.add (.v 14) (.c 1)) (.letL (.set 2 (.v 31) (.v 1)) (.letI (.add (.v 14) (.c 2)) (.letL (.set 3 (.v 32) (.v 2)) (.letI (.add (.v 14) (.c 3)) (.letL (.set 4 (.v 33) (.v 3)) (.letL (.set 5 (.v 24) (.v 30)) (.done [.c (1)] [6])))))))))))))))))))))) (.letI (.cmp .lss (.v 18) (.c 0)) (.ite (.v 21) (.letI (.get 0 (.c 40)) (.letI (.add (.v 22) (.c 1)) (.letI (.wr .i64 (.v 23)) (.letL (.set 0 (.c 40) (.v 24)) (.letI (.get 1 (.c 40)) (.letL (.set 1 (.v 17) (.v 0)) (.letI (.add (.v 17) (.c 1)) (.letL (.set 2 (.v 26) (.v 1)) (.letI (.add (.v 17) (.c 2)) (.letL (.set 3 (.v 27) (.v 2)) (.letI (.add (.v 17) (.c 3)) (.letL (.set 4 (.v 28) (.v 3)) (.letI (.add (.v 17) (.c 4)) (.letL (.set 5 (.v 29) (.v 25)) (.done [.c (1)] [6]))))))))))))))) (.letI (.add (.v 17) (.c 4)) (.letI (.get 0 (.v 22)) (.letI (.add (.v 14) (.c 4)) (.letI (.get 0 (.v 24)) (.letI (.cmp .lss (.v 23) (.v 25)) (.ite (.v 26) (.letI (.get 0 (.c 40)) (.letI (.add (.v 27) (.c 1)) (.letI (.wr .i64 (.v 28)) (.letL (.set 0 (.c 40) (.v 29)) (.letI (.get 1 (.c 40)) (.letL (.set 1 (.v 17) (.v 0)) (.letI (.add (.v 17) (.c 1)) (.letL (.set 2 (.v 31) (.v 1)) (.letI (.add (.v 17) (.c 2)) (.letL (.set 3 (.v 32) (.v 2)) (.letI (.add (.v 17) (.c 3)) (.letL (.set 4 (.v 33) (.v 3)) (.letL (.set 5 (.v 22) (.v 30)) (.done [.c (1)] [6])))))))))))))) (.letI (.get 0 (.c 40)) (.letI (.add (.v 27) (.c 1)) (.letI (.wr .i64 (.v 28)) (.letL (.set 0 (.c 40) (.v 29)) (.letI (.get 1 (.c 40)) (.letL (.set 1 (.v 14) (.v 0)) (.letI (.add (.v 14) (.c 1)) (.letL (.set 2 (.v 31) (.v 1)) (.letI (.add (.v 14) (.c 2)) (.letL (.set 3 (.v 32) (.v 2)) (.letI (.add (.v 14) (.c 3)) (.letL (.set 4 (.v 33) (.v 3)) (.letL (.set 5 (.v 24) (.v 30)) (.done [.c (1)] [6]))))))))))))))))))))))))))))))))))))) (.done [.c (0)] [0]))))))))))))))
theorem bFill_tree : (L2.bFill).exe Tryz.prog (L2.cfg Tryz.prog) [] 20 200 = bFill_t := by kernel_rfl
theorem bFill_vc (Q : List Int → List (List Int) → Prop) (v0 v1 v2 v3 : Int) (L0 : List Int) : bFill_t.dn ⟨Q, []⟩ 4 [v3, v2, v1, v0] 1 [L0] = (((v0 < (0 : Int)) → Q [(0 : Int)] [L0]) ∧
(((0 : Int) ≤ v0) → (((4 : Int) ≤ v0) → Q [(0 : Int)] [L0]) ∧
((v0 < (4 : Int)) → ((v1 < (0 : Int)) → Q [(0 : Int)] [L0]) ∧
(((0 : Int) ≤ v1) → (((8 : Int) ≤ v1) → Q [(0 : Int)] [L0]) ∧
((v1 < (8 : Int)) → ((v2 < (0 : Int)) → Q [(0 : Int)] [L0]) ∧
(((0 : Int) ≤ v2) → (((16 : Int) ≤ v2) → Q [(0 : Int)] [L0]) ∧
((v2 < (16 : Int)) → (((1 : Int) ≤ v3) → ∀ v11 : Int, v11 = b2i (decide (v3 ≤ (3 : Int))) → ∀ v12 : Int, v12 = b2i (v11 == 0) → (v12 ≠ 0 → Q [(0 : Int)] [L0]) ∧
(v12 = 0 → ∀ v13 : Int, v13 = (v1).tmod (4 : Int) → ∀ v14 : Int, v14 = v13 * (10 : Int) → ∀ v15 : Int, v15 = (L0).getD (v14).toNat 0 → ((v0 = v15) → ∀ v17 : Int, v17 = v14 + (1 : Int) → ∀ v18 : Int, v18 = (L0).getD (v17).toNat 0 → ((v1 = v18) → ∀ v20 : Int, v20 = (L0).getD ((40 : Int)).toNat 0 → ∀ v21 : Int, v21 = v20 + (1 : Int) → ∀ v22 : Int, v22 = IntKind.wrap .i64 v21 → ∀ L1 : List Int, L1 = (L0).set ((40 : Int)).toNat v22 → ∀ v23 : Int, v23 = (L1).getD ((40 : Int)).toNat 0 → ∀ L2 : List Int, L2 = (L1).set (v14).toNat v0 → ∀ L3 : List Int, L3 = (L2).set (v17).toNat v1 → ∀ v24 : Int, v24 = v14 + (2 : Int) → ∀ L4 : List Int, L4 = (L3).set (v24).toNat v2 → ∀ v25 : Int, v25 = v14 + (3 : Int) → ∀ L5 : List Int, L5 = (L4).set (v25).toNat v3 → ∀ v26 : Int, v26 = v14 + (4 : Int) → ∀ L6 : List Int, L6 = (L5).set (v26).toNat v23 → Q [(1 : Int)] [L6]) ∧
((v1 ≠ v18) → ∀ v20 : Int, v20 = v14 + (5 : Int) → ∀ v21 : Int, v21 = (L0).getD (v20).toNat 0 → ((v0 = v21) → ∀ v23 : Int, v23 = v20 + (1 : Int) → ∀ v24 : Int, v24 = (L0).getD (v23).toNat 0 → ((v1 = v24) → ∀ v26 : Int, v26 = (L0).getD ((40 : Int)).toNat 0 → ∀ v27 : Int, v27 = v26 + (1 : Int) → ∀ v28 : Int, v28 = IntKind.wrap .i64 v27 → ∀ L1 : List Int, L1 = (L0).set ((40 : Int)).toNat v28 → ∀ v29 : Int, v29 = (L1).getD ((40 : Int)).toNat 0 → ∀ L2 : List Int, L2 = (L1).set (v20).toNat v0 → ∀ L3 : List Int, L3 = (L2).set (v23).toNat v1 → ∀ v30 : Int, v30 = v20 + (2 : Int) → ∀ L4 : List Int, L4 = (L3).set (v30).toNat v2 → ∀ v31 : Int, v31 = v20 + (3 : Int) → ∀ L5 : List Int, L5 = (L4).set (v31).toNat v3 → ∀ v32 : Int, v32 = v20 + (4 : Int) → ∀ L6 : List Int, L6 = (L5).set (v32).toNat v29 → Q [(1 : Int)] [L6]) ∧
((v1 ≠ v24) → (∀ v26 : Int, v26 = v20 + (4 : Int) → ∀ v27 : Int, v27 = (L0).getD (v26).toNat 0 → ∀ v28 : Int, v28 = v14 + (4 : Int) → ∀ v29 : Int, v29 = (L0).getD (v28).toNat 0 → ((v27 < v29) → ∀ v31 : Int, v31 = (L0).getD ((40 : Int)).toNat 0 → ∀ v32 : Int, v32 = v31 + (1 : Int) → ∀ v33 : Int, v33 = IntKind.wrap .i64 v32 → ∀ L1 : List Int, L1 = (L0).set ((40 : Int)).toNat v33 → ∀ v34 : Int, v34 = (L1).getD ((40 : Int)).toNat 0 → ∀ L2 : List Int, L2 = (L1).set (v20).toNat v0 → ∀ L3 : List Int, L3 = (L2).set (v23).toNat v1 → ∀ v35 : Int, v35 = v20 + (2 : Int) → ∀ L4 : List Int, L4 = (L3).set (v35).toNat v2 → ∀ v36 : Int, v36 = v20 + (3 : Int) → ∀ L5 : List Int, L5 = (L4).set (v36).toNat v3 → ∀ L6 : List Int, L6 = (L5).set (v26).toNat v34 → Q [(1 : Int)] [L6]) ∧
((v29 ≤ v27) → ∀ v31 : Int, v31 = (L0).getD ((40 : Int)).toNat 0 → ∀ v32 : Int, v32 = v31 + (1 : Int) → ∀ v33 : Int, v33 = IntKind.wrap .i64 v32 → ∀ L1 : List Int, L1 = (L0).set ((40 : Int)).toNat v33 → ∀ v34 : Int, v34 = (L1).getD ((40 : Int)).toNat 0 → ∀ L2 : List Int, L2 = (L1).set (v14).toNat v0 → ∀ L3 : List Int, L3 = (L2).set (v17).toNat v1 → ∀ v35 : Int, v35 = v14 + (2 : Int) → ∀ L4 : List Int, L4 = (L3).set (v35).toNat v2 → ∀ v36 : Int, v36 = v14 + (3 : Int) → ∀ L5 : List Int, L5 = (L4).set (v36).toNat v3 → ∀ L6 : List Int, L6 = (L5).set (v28).toNat v34 → Q [(1 : Int)] [L6])) ∧
(∀ v26 : Int, v26 = v20 + (4 : Int) → ∀ v27 : Int, v27 = (L0).getD (v26).toNat 0 → ∀ v28 : Int, v28 = v14 + (4 : Int) → ∀ v29 : Int, v29 = (L0).getD (v28).toNat 0 → ((v27 < v29) → ∀ v31 : Int, v31 = (L0).getD ((40 : Int)).toNat 0 → ∀ v32 : Int, v32 = v31 + (1 : Int) → ∀ v33 : Int, v33 = IntKind.wrap .i64 v32 → ∀ L1 : List Int, L1 = (L0).set ((40 : Int)).toNat v33 → ∀ v34 : Int, v34 = (L1).getD ((40 : Int)).toNat 0 → ∀ L2 : List Int, L2 = (L1).set (v20).toNat v0 → ∀ L3 : List Int, L3 = (L2).set (v23).toNat v1 → ∀ v35 : Int, v35 = v20 + (2 : Int) → ∀ L4 : List Int, L4 = (L3).set (v35).toNat v2 → ∀ v36 : Int, v36 = v20 + (3 : Int) → ∀ L5 : List Int, L5 = (L4).set (v36).toNat v3 → ∀ L6 : List Int, L6 = (L5).set (v26).toNat v34 → Q [(1 : Int)] [L6]) ∧
((v29 ≤ v27) → ∀ v31 : Int, v31 = (L0).getD ((40 : Int)).toNat 0 → ∀ v32 : Int, v32 = v31 + (1 : Int) → ∀ v33 : Int, v33 = IntKind.wrap .i64 v32 → ∀ L1 : List Int, L1 = (L0).set ((40 : Int)).toNat v33 → ∀ v34 : Int, v34 = (L1).getD ((40 : Int)).toNat 0 → ∀ L2 : List Int, L2 = (L1).set (v14).toNat v0 → ∀ L3 : List Int, L3 = (L2).set (v17).toNat v1 → ∀ v35 : Int, v35 = v14 + (2 : Int) → ∀ L4 : List Int, L4 = (L3).set (v35).toNat v2 → ∀ v36 : Int, v36 = v14 + (3 : Int) → ∀ L5 : List Int, L5 = (L4).set (v36).toNat v3 → ∀ L6 : List Int, L6 = (L5).set (v28).toNat v34 → Q [(1 : Int)] [L6])))) ∧
((v0 ≠ v21) → (((v21 < (0 : Int)) → ∀ v24 : Int, v24 = (L0).getD ((40 : Int)).toNat 0 → ∀ v25 : Int, v25 = v24 + (1 : Int) → ∀ v26 : Int, v26 = IntKind.wrap .i64 v25 → ∀ L1 : List Int, L1 = (L0).set ((40 : Int)).toNat v26 → ∀ v27 : Int, v27 = (L1).getD ((40 : Int)).toNat 0 → ∀ L2 : List Int, L2 = (L1).set (v20).toNat v0 → ∀ v28 : Int, v28 = v20 + (1 : Int) → ∀ L3 : List Int, L3 = (L2).set (v28).toNat v1 → ∀ v29 : Int, v29 = v20 + (2 : Int) → ∀ L4 : List Int, L4 = (L3).set (v29).toNat v2 → ∀ v30 : Int, v30 = v20 + (3 : Int) → ∀ L5 : List Int, L5 = (L4).set (v30).toNat v3 → ∀ v31 : Int, v31 = v20 + (4 : Int) → ∀ L6 : List Int, L6 = (L5).set (v31).toNat v27 → Q [(1 : Int)] [L6]) ∧
(((0 : Int) ≤ v21) → ∀ v24 : Int, v24 = v20 + (4 : Int) → ∀ v25 : Int, v25 = (L0).getD (v24).toNat 0 → ∀ v26 : Int, v26 = v14 + (4 : Int) → ∀ v27 : Int, v27 = (L0).getD (v26).toNat 0 → ((v25 < v27) → ∀ v29 : Int, v29 = (L0).getD ((40 : Int)).toNat 0 → ∀ v30 : Int, v30 = v29 + (1 : Int) → ∀ v31 : Int, v31 = IntKind.wrap .i64 v30 → ∀ L1 : List Int, L1 = (L0).set ((40 : Int)).toNat v31 → ∀ v32 : Int, v32 = (L1).getD ((40 : Int)).toNat 0 → ∀ L2 : List Int, L2 = (L1).set (v20).toNat v0 → ∀ v33 : Int, v33 = v20 + (1 : Int) → ∀ L3 : List Int, L3 = (L2).set (v33).toNat v1 → ∀ v34 : Int, v34 = v20 + (2 : Int) → ∀ L4 : List Int, L4 = (L3).set (v34).toNat v2 → ∀ v35 : Int, v35 = v20 + (3 : Int) → ∀ L5 : List Int, L5 = (L4).set (v35).toNat v3 → ∀ L6 : List Int, L6 = (L5).set (v24).toNat v32 → Q [(1 : Int)] [L6]) ∧
((v27 ≤ v25) → ∀ v29 : Int, v29 = (L0).getD ((40 : Int)).toNat 0 → ∀ v30 : Int, v30 = v29 + (1 : Int) → ∀ v31 : Int, v31 = IntKind.wrap .i64 v30 → ∀ L1 : List Int, L1 = (L0).set ((40 : Int)).toNat v31 → ∀ v32 : Int, v32 = (L1).getD ((40 : Int)).toNat 0 → ∀ L2 : List Int, L2 = (L1).set (v14).toNat v0 → ∀ L3 : List Int, L3 = (L2).set (v17).toNat v1 → ∀ v33 : Int, v33 = v14 + (2 : Int) → ∀ L4 : List Int, L4 = (L3).set (v33).toNat v2 → ∀ v34 : Int, v34 = v14 + (3 : Int) → ∀ L5 : List Int, L5 = (L4).set (v34).toNat v3 → ∀ L6 : List Int, L6 = (L5).set (v26).toNat v32 → Q [(1 : Int)] [L6]))) ∧
(((v21 < (0 : Int)) → ∀ v24 : Int, v24 = (L0).getD ((40 : Int)).toNat 0 → ∀ v25 : Int, v25 = v24 + (1 : Int) → ∀ v26 : Int, v26 = IntKind.wrap .i64 v25 → ∀ L1 : List Int, L1 = (L0).set ((40 : Int)).toNat v26 → ∀ v27 : Int, v27 = (L1).getD ((40 : Int)).toNat 0 → ∀ L2 : List Int, L2 = (L1).set (v20).toNat v0 → ∀ v28 : Int, v28 = v20 + (1 : Int) → ∀ L3 : List Int, L3 = (L2).set (v28).toNat v1 → ∀ v29 : Int, v29 = v20 + (2 : Int) → ∀ L4 : List Int, L4 = (L3).set (v29).toNat v2 → ∀ v30 : Int, v30 = v20 + (3 : Int) → ∀ L5 : List Int, L5 = (L4).set (v30).toNat v3 → ∀ v31 : Int, v31 = v20 + (4 : Int) → ∀ L6 : List Int, L6 = (L5).set (v31).toNat v27 → Q [(1 : Int)] [L6]) ∧
(((0 : Int) ≤ v21) → ∀ v24 : Int, v24 = v20 + (4 : Int) → ∀ v25 : Int, v25 = (L0).getD (v24).toNat 0 → ∀ v26 : Int, v26 = v14 + (4 : Int) → ∀ v27 : Int, v27 = (L0).getD (v26).toNat 0 → ((v25 < v27) → ∀ v29 : Int, v29 = (L0).getD ((40 : Int)).toNat 0 → ∀ v30 : Int, v30 = v29 + (1 : Int) → ∀ v31 : Int, v31 = IntKind.wrap .i64 v30 → ∀ L1 : List Int, L1 = (L0).set ((40 : Int)).toNat v31 → ∀ v32 : Int, v32 = (L1).getD ((40 : Int)).toNat 0 → ∀ L2 : List Int, L2 = (L1).set (v20).toNat v0 → ∀ v33 : Int, v33 = v20 + (1 : Int) → ∀ L3 : List Int, L3 = (L2).set (v33).toNat v1 → ∀ v34 : Int, v34 = v20 + (2 : Int) → ∀ L4 : List Int, L4 = (L3).set (v34).toNat v2 → ∀ v35 : Int, v35 = v20 + (3 : Int) → ∀ L5 : List Int, L5 = (L4).set (v35).toNat v3 → ∀ L6 : List Int, L6 = (L5).set (v24).toNat v32 → Q [(1 : Int)] [L6]) ∧
((v27 ≤ v25) → ∀ v29 : Int, v29 = (L0).getD ((40 : Int)).toNat 0 → ∀ v30 : Int, v30 = v29 + (1 : Int) → ∀ v31 : Int, v31 = IntKind.wrap .i64 v30 → ∀ L1 : List Int, L1 = (L0).set ((40 : Int)).toNat v31 → ∀ v32 : Int, v32 = (L1).getD ((40 : Int)).toNat 0 → ∀ L2 : List Int, L2 = (L1).set (v14).toNat v0 → ∀ L3 : List Int, L3 = (L2).set (v17).toNat v1 → ∀ v33 : Int, v33 = v14 + (2 : Int) → ∀ L4 : List Int, L4 = (L3).set (v33).toNat v2 → ∀ v34 : Int, v34 = v14 + (3 : Int) → ∀ L5 : List Int, L5 = (L4).set (v34).toNat v3 → ∀ L6 : List Int, L6 = (L5).set (v26).toNat v32 → Q [(1 : Int)] [L6])))))) ∧
((v0 ≠ v15) → ∀ v17 : Int, v17 = v14 + (5 : Int) → ∀ v18 : Int, v18 = (L0).getD (v17).toNat 0 → ((v0 = v18) → ∀ v20 : Int, v20 = v17 + (1 : Int) → ∀ v21 : Int, v21 = (L0).getD (v20).toNat 0 → ((v1 = v21) → ∀ v23 : Int, v23 = (L0).getD ((40 : Int)).toNat 0 → ∀ v24 : Int, v24 = v23 + (1 : Int) → ∀ v25 : Int, v25 = IntKind.wrap .i64 v24 → ∀ L1 : List Int, L1 = (L0).set ((40 : Int)).toNat v25 → ∀ v26 : Int, v26 = (L1).getD ((40 : Int)).toNat 0 → ∀ L2 : List Int, L2 = (L1).set (v17).toNat v0 → ∀ L3 : List Int, L3 = (L2).set (v20).toNat v1 → ∀ v27 : Int, v27 = v17 + (2 : Int) → ∀ L4 : List Int, L4 = (L3).set (v27).toNat v2 → ∀ v28 : Int, v28 = v17 + (3 : Int) → ∀ L5 : List Int, L5 = (L4).set (v28).toNat v3 → ∀ v29 : Int, v29 = v17 + (4 : Int) → ∀ L6 : List Int, L6 = (L5).set (v29).toNat v26 → Q [(1 : Int)] [L6]) ∧
((v1 ≠ v21) → ((v15 < (0 : Int)) → ∀ v24 : Int, v24 = (L0).getD ((40 : Int)).toNat 0 → ∀ v25 : Int, v25 = v24 + (1 : Int) → ∀ v26 : Int, v26 = IntKind.wrap .i64 v25 → ∀ L1 : List Int, L1 = (L0).set ((40 : Int)).toNat v26 → ∀ v27 : Int, v27 = (L1).getD ((40 : Int)).toNat 0 → ∀ L2 : List Int, L2 = (L1).set (v14).toNat v0 → ∀ v28 : Int, v28 = v14 + (1 : Int) → ∀ L3 : List Int, L3 = (L2).set (v28).toNat v1 → ∀ v29 : Int, v29 = v14 + (2 : Int) → ∀ L4 : List Int, L4 = (L3).set (v29).toNat v2 → ∀ v30 : Int, v30 = v14 + (3 : Int) → ∀ L5 : List Int, L5 = (L4).set (v30).toNat v3 → ∀ v31 : Int, v31 = v14 + (4 : Int) → ∀ L6 : List Int, L6 = (L5).set (v31).toNat v27 → Q [(1 : Int)] [L6]) ∧
(((0 : Int) ≤ v15) → (∀ v24 : Int, v24 = v17 + (4 : Int) → ∀ v25 : Int, v25 = (L0).getD (v24).toNat 0 → ∀ v26 : Int, v26 = v14 + (4 : Int) → ∀ v27 : Int, v27 = (L0).getD (v26).toNat 0 → ((v25 < v27) → ∀ v29 : Int, v29 = (L0).getD ((40 : Int)).toNat 0 → ∀ v30 : Int, v30 = v29 + (1 : Int) → ∀ v31 : Int, v31 = IntKind.wrap .i64 v30 → ∀ L1 : List Int, L1 = (L0).set ((40 : Int)).toNat v31 → ∀ v32 : Int, v32 = (L1).getD ((40 : Int)).toNat 0 → ∀ L2 : List Int, L2 = (L1).set (v17).toNat v0 → ∀ L3 : List Int, L3 = (L2).set (v20).toNat v1 → ∀ v33 : Int, v33 = v17 + (2 : Int) → ∀ L4 : List Int, L4 = (L3).set (v33).toNat v2 → ∀ v34 : Int, v34 = v17 + (3 : Int) → ∀ L5 : List Int, L5 = (L4).set (v34).toNat v3 → ∀ L6 : List Int, L6 = (L5).set (v24).toNat v32 → Q [(1 : Int)] [L6]) ∧
((v27 ≤ v25) → ∀ v29 : Int, v29 = (L0).getD ((40 : Int)).toNat 0 → ∀ v30 : Int, v30 = v29 + (1 : Int) → ∀ v31 : Int, v31 = IntKind.wrap .i64 v30 → ∀ L1 : List Int, L1 = (L0).set ((40 : Int)).toNat v31 → ∀ v32 : Int, v32 = (L1).getD ((40 : Int)).toNat 0 → ∀ L2 : List Int, L2 = (L1).set (v14).toNat v0 → ∀ v33 : Int, v33 = v14 + (1 : Int) → ∀ L3 : List Int, L3 = (L2).set (v33).toNat v1 → ∀ v34 : Int, v34 = v14 + (2 : Int) → ∀ L4 : List Int, L4 = (L3).set (v34).toNat v2 → ∀ v35 : Int, v35 = v14 + (3 : Int) → ∀ L5 : List Int, L5 = (L4).set (v35).toNat v3 → ∀ L6 : List Int, L6 = (L5).set (v26).toNat v32 → Q [(1 : Int)] [L6])) ∧
(∀ v24 : Int, v24 = v17 + (4 : Int) → ∀ v25 : Int, v25 = (L0).getD (v24).toNat 0 → ∀ v26 : Int, v26 = v14 + (4 : Int) → ∀ v27 : Int, v27 = (L0).getD (v26).toNat 0 → ((v25 < v27) → ∀ v29 : Int, v29 = (L0).getD ((40 : Int)).toNat 0 → ∀ v30 : Int, v30 = v29 + (1 : Int) → ∀ v31 : Int, v31 = IntKind.wrap .i64 v30 → ∀ L1 : List Int, L1 = (L0).set ((40 : Int)).toNat v31 → ∀ v32 : Int, v32 = (L1).getD ((40 : Int)).toNat 0 → ∀ L2 : List Int, L2 = (L1).set (v17).toNat v0 → ∀ L3 : List Int, L3 = (L2).set (v20).toNat v1 → ∀ v33 : Int, v33 = v17 + (2 : Int) → ∀ L4 : List Int, L4 = (L3).set (v33).toNat v2 → ∀ v34 : Int, v34 = v17 + (3 : Int) → ∀ L5 : List Int, L5 = (L4).set (v34).toNat v3 → ∀ L6 : List Int, L6 = (L5).set (v24).toNat v32 → Q [(1 : Int)] [L6]) ∧
((v27 ≤ v25) → ∀ v29 : Int, v29 = (L0).getD ((40 : Int)).toNat 0 → ∀ v30 : Int, v30 = v29 + (1 : Int) → ∀ v31 : Int, v31 = IntKind.wrap .i64 v30 → ∀ L1 : List Int, L1 = (L0).set ((40 : Int)).toNat v31 → ∀ v32 : Int, v32 = (L1).getD ((40 : Int)).toNat 0 → ∀ L2 : List Int, L2 = (L1).set (v14).toNat v0 → ∀ v33 : Int, v33 = v14 + (1 : Int) → ∀ L3 : List Int, L3 = (L2).set (v33).toNat v1 → ∀ v34 : Int, v34 = v14 + (2 : Int) → ∀ L4 : List Int, L4 = (L3).set (v34).toNat v2 → ∀ v35 : Int, v35 = v14 + (3 : Int) → ∀ L5 : List Int, L5 = (L4).set (v35).toNat v3 → ∀ L6 : List Int, L6 = (L5).set (v26).toNat v32 → Q [(1 : Int)] [L6]))))) ∧
((v0 ≠ v18) → ((v15 < (0 : Int)) → ∀ v21 : Int, v21 = (L0).getD ((40 : Int)).toNat 0 → ∀ v22 : Int, v22 = v21 + (1 : Int) → ∀ v23 : Int, v23 = IntKind.wrap .i64 v22 → ∀ L1 : List Int, L1 = (L0).set ((40 : Int)).toNat v23 → ∀ v24 : Int, v24 = (L1).getD ((40 : Int)).toNat 0 → ∀ L2 : List Int, L2 = (L1).set (v14).toNat v0 → ∀ v25 : Int, v25 = v14 + (1 : Int) → ∀ L3 : List Int, L3 = (L2).set (v25).toNat v1 → ∀ v26 : Int, v26 = v14 + (2 : Int) → ∀ L4 : List Int, L4 = (L3).set (v26).toNat v2 → ∀ v27 : Int, v27 = v14 + (3 : Int) → ∀ L5 : List Int, L5 = (L4).set (v27).toNat v3 → ∀ v28 : Int, v28 = v14 + (4 : Int) → ∀ L6 : List Int, L6 = (L5).set (v28).toNat v24 → Q [(1 : Int)] [L6]) ∧
(((0 : Int) ≤ v15) → (((v18 < (0 : Int)) → ∀ v22 : Int, v22 = (L0).getD ((40 : Int)).toNat 0 → ∀ v23 : Int, v23 = v22 + (1 : Int) → ∀ v24 : Int, v24 = IntKind.wrap .i64 v23 → ∀ L1 : List Int, L1 = (L0).set ((40 : Int)).toNat v24 → ∀ v25 : Int, v25 = (L1).getD ((40 : Int)).toNat 0 → ∀ L2 : List Int, L2 = (L1).set (v17).toNat v0 → ∀ v26 : Int, v26 = v17 + (1 : Int) → ∀ L3 : List Int, L3 = (L2).set (v26).toNat v1 → ∀ v27 : Int, v27 = v17 + (2 : Int) → ∀ L4 : List Int, L4 = (L3).set (v27).toNat v2 → ∀ v28 : Int, v28 = v17 + (3 : Int) → ∀ L5 : List Int, L5 = (L4).set (v28).toNat v3 → ∀ v29 : Int, v29 = v17 + (4 : Int) → ∀ L6 : List Int, L6 = (L5).set (v29).toNat v25 → Q [(1 : Int)] [L6]) ∧
(((0 : Int) ≤ v18) → ∀ v22 : Int, v22 = v17 + (4 : Int) → ∀ v23 : Int, v23 = (L0).getD (v22).toNat 0 → ∀ v24 : Int, v24 = v14 + (4 : Int) → ∀ v25 : Int, v25 = (L0).getD (v24).toNat 0 → ((v23 < v25) → ∀ v27 : Int, v27 = (L0).getD ((40 : Int)).toNat 0 → ∀ v28 : Int, v28 = v27 + (1 : Int) → ∀ v29 : Int, v29 = IntKind.wrap .i64 v28 → ∀ L1 : List Int, L1 = (L0).set ((40 : Int)).toNat v29 → ∀ v30 : Int, v30 = (L1).getD ((40 : Int)).toNat 0 → ∀ L2 : List Int, L2 = (L1).set (v17).toNat v0 → ∀ v31 : Int, v31 = v17 + (1 : Int) → ∀ L3 : List Int, L3 = (L2).set (v31).toNat v1 → ∀ v32 : Int, v32 = v17 + (2 : Int) → ∀ L4 : List Int, L4 = (L3).set (v32).toNat v2 → ∀ v33 : Int, v33 = v17 + (3 : Int) → ∀ L5 : List Int, L5 = (L4).set (v33).toNat v3 → ∀ L6 : List Int, L6 = (L5).set (v22).toNat v30 → Q [(1 : Int)] [L6]) ∧
((v25 ≤ v23) → ∀ v27 : Int, v27 = (L0).getD ((40 : Int)).toNat 0 → ∀ v28 : Int, v28 = v27 + (1 : Int) → ∀ v29 : Int, v29 = IntKind.wrap .i64 v28 → ∀ L1 : List Int, L1 = (L0).set ((40 : Int)).toNat v29 → ∀ v30 : Int, v30 = (L1).getD ((40 : Int)).toNat 0 → ∀ L2 : List Int, L2 = (L1).set (v14).toNat v0 → ∀ v31 : Int, v31 = v14 + (1 : Int) → ∀ L3 : List Int, L3 = (L2).set (v31).toNat v1 → ∀ v32 : Int, v32 = v14 + (2 : Int) → ∀ L4 : List Int, L4 = (L3).set (v32).toNat v2 → ∀ v33 : Int, v33 = v14 + (3 : Int) → ∀ L5 : List Int, L5 = (L4).set (v33).toNat v3 → ∀ L6 : List Int, L6 = (L5).set (v24).toNat v30 → Q [(1 : Int)] [L6]))) ∧
(((v18 < (0 : Int)) → ∀ v22 : Int, v22 = (L0).getD ((40 : Int)).toNat 0 → ∀ v23 : Int, v23 = v22 + (1 : Int) → ∀ v24 : Int, v24 = IntKind.wrap .i64 v23 → ∀ L1 : List Int, L1 = (L0).set ((40 : Int)).toNat v24 → ∀ v25 : Int, v25 = (L1).getD ((40 : Int)).toNat 0 → ∀ L2 : List Int, L2 = (L1).set (v17).toNat v0 → ∀ v26 : Int, v26 = v17 + (1 : Int) → ∀ L3 : List Int, L3 = (L2).set (v26).toNat v1 → ∀ v27 : Int, v27 = v17 + (2 : Int) → ∀ L4 : List Int, L4 = (L3).set (v27).toNat v2 → ∀ v28 : Int, v28 = v17 + (3 : Int) → ∀ L5 : List Int, L5 = (L4).set (v28).toNat v3 → ∀ v29 : Int, v29 = v17 + (4 : Int) → ∀ L6 : List Int, L6 = (L5).set (v29).toNat v25 → Q [(1 : Int)] [L6]) ∧
(((0 : Int) ≤ v18) → ∀ v22 : Int, v22 = v17 + (4 : Int) → ∀ v23 : Int, v23 = (L0).getD (v22).toNat 0 → ∀ v24 : Int, v24 = v14 + (4 : Int) → ∀ v25 : Int, v25 = (L0).getD (v24).toNat 0 → ((v23 < v25) → ∀ v27 : Int, v27 = (L0).getD ((40 : Int)).toNat 0 → ∀ v28 : Int, v28 = v27 + (1 : Int) → ∀ v29 : Int, v29 = IntKind.wrap .i64 v28 → ∀ L1 : List Int, L1 = (L0).set ((40 : Int)).toNat v29 → ∀ v30 : Int, v30 = (L1).getD ((40 : Int)).toNat 0 → ∀ L2 : List Int, L2 = (L1).set (v17).toNat v0 → ∀ v31 : Int, v31 = v17 + (1 : Int) → ∀ L3 : List Int, L3 = (L2).set (v31).toNat v1 → ∀ v32 : Int, v32 = v17 + (2 : Int) → ∀ L4 : List Int, L4 = (L3).set (v32).toNat v2 → ∀ v33 : Int, v33 = v17 + (3 : Int) → ∀ L5 : List Int, L5 = (L4).set (v33).toNat v3 → ∀ L6 : List Int, L6 = (L5).set (v22).toNat v30 → Q [(1 : Int)] [L6]) ∧
((v25 ≤ v23) → ∀ v27 : Int, v27 = (L0).getD ((40 : Int)).toNat 0 → ∀ v28 : Int, v28 = v27 + (1 : Int) → ∀ v29 : Int, v29 = IntKind.wrap .i64 v28 → ∀ L1 : List Int, L1 = (L0).set ((40 : Int)).toNat v29 → ∀ v30 : Int, v30 = (L1).getD ((40 : Int)).toNat 0 → ∀ L2 : List Int, L2 = (L1).set (v14).toNat v0 → ∀ v31 : Int, v31 = v14 + (1 : Int) → ∀ L3 : List Int, L3 = (L2).set (v31).toNat v1 → ∀ v32 : Int, v32 = v14 + (2 : Int) → ∀ L4 : List Int, L4 = (L3).set (v32).toNat v2 → ∀ v33 : Int, v33 = v14 + (3 : Int) → ∀ L5 : List Int, L5 = (L4).set (v33).toNat v3 → ∀ L6 : List Int, L6 = (L5).set (v24).toNat v30 → Q [(1 : Int)] [L6])))))))) ∧
((v3 < (1 : Int)) → Q [(0 : Int)] [L0])))))))) := by kernel_rfl
set_option maxHeartbeats 4000000 in
theorem bFill_holds : (L2.bFill).Holds Tryz.prog L2.ro := FSpec.holdsV (cfg := L2.cfg Tryz.prog) [] 20 200 cfg_ok mixed (t := bFill_t) bFill_tree (by
  show ∀ (v0 v1 v2 v3 : Int) (L0 : List Int), _
  intro v0 v1 v2 v3 L0 hp hr hl
  replace hr : (((-9223372036854775808) : Int) ≤ v0 ∧ v0 ≤ ((9223372036854775807) : Int)) ∧ (((-9223372036854775808) : Int) ≤ v1 ∧ v1 ≤ ((9223372036854775807) : Int)) ∧ (((-9223372036854775808) : Int) ≤ v2 ∧ v2 ≤ ((9223372036854775807) : Int)) ∧ (((-9223372036854775808) : Int) ≤ v3 ∧ v3 ≤ ((9223372036854775807) : Int)) ∧ True := hr
  replace hl : (∀ x ∈ L0, (((-9223372036854775808) : Int) ≤ x ∧ x ≤ ((9223372036854775807) : Int))) ∧ True := hl
  show bFill_t.dn ⟨_, []⟩ 4 [v3, v2, v1, v0] 1 [L0]
  rw [bFill_vc]
  have tm : 0 ≤ v1 → v1.tmod 4 = v1 % 4 := fun h => Int.tmod_eq_emod_of_nonneg h
  simp only [fnSpec_post, fnSpec_pre, true_and, List.cons.injEq, and_true, List.getD_cons_zero, List.getD_cons_succ, and_imp, forall_eq, b2i_zero, b2i_eq, ne_eq, Bool.not_eq_false, Bool.not_eq_true', Bool.not_eq_false', decide_eq_true_eq, decide_eq_false_iff_not, Int.not_lt, Int.not_le]
  repeat' first | refine And.intro ?_ ?_ | intro _
  all_goals clear hr hl hp
  all_goals first | omega | skip
  all_goals grind [lineOk, fillB, placeB, putB, roomB, atB, hitB, baseB, gI, b2i, rightsB])
noncomputable def bFlush_t : Tree := .letI (.cmp .lss (.v 0) (.c 0)) (.ite (.v 2) (.done [.c (0)] [0]) (.letI (.cmp .lss (.v 1) (.c 0)) (.ite (.v 3) (.done [.c (0)] [0]) (.letI (.cmp .leq (.c 8) (.v 1)) (.ite (.v 4) (.done [.c (0)] [0]) (.letI (.rem (.v 1) (.c 4)) (.letI (.mul (.v 5) (.c 10)) (.letI (.get 0 (.v 6)) (.letI (.cmp .eql (.v 0) (.v 7)) (.ite (.v 8) (.letI (.add (.v 6) (.c 1)) (.letI (.get 0 (.v 9)) (.letI (.cmp .eql (.v 1) (.v 10)) (.ite (.v 11) (.letL (.set 0 (.v 6) (.c (-1))) (.letL (.set 1 (.v 9) (.c 0)) (.letI (.add (.v 6) (.c 2)) (.letL (.set 2 (.v 12) (.c 0)) (.letI (.add (.v 6) (.c 3)) (.letL (.set 3 (.v 13) (.c 0)) (.done [.c (1)] [4]))))))) (.letI (.add (.v 6) (.c 5)) (.letI (.get 0 (.v 12)) (.letI (.cmp .eql (.v 0) (.v 13)) (.ite (.v 14) (.letI (.add (.v 12) (.c 1)) (.letI (.get 0 (.v 15)) (.letI (.cmp .eql (.v 1) (.v 16)) (.ite (.v 17) (.letL (.set 0 (.v 12) (.c (-1))) (.letL (.set 1 (.v 15) (.c 0)) (.letI (.add (.v 12) (.c 2)) (.letL (.set 2 (.v 18) (.c 0)) (.letI (.add (.v 12) (.c 3)) (.letL (.set 3 (.v 19) (.c 0)) (.done [.c (1)] [4]))))))) (.done [.c (0)] [0]))))) (.done [.c (0)] [0]))))))))) (.letI (.add (.v 6) (.c 5)) (.letI (.get 0 (.v 9)) (.letI (.cmp .eql (.v 0) (.v 10)) (.ite (.v 11) (.letI (.add (.v 9) (.c 1)) (.letI (.get 0 (.v 12)) (.letI (.cmp .eql (.v 1) (.v 13)) (.ite (.v 14) (.letL (.set 0 (.v 9) (.c (-1))) (.letL (.set 1 (.v 12) (.c 0)) (.letI (.add (.v 9) (.c 2)) (.letL (.set 2 (.v 15) (.c 0)) (.letI (.add (.v 9) (.c 3)) (.letL (.set 3 (.v 16) (.c 0)) (.done [.c (1)] [4]))))))) (.done [.c (0)] [0]))))) (.done [.c (0)] [0])))))))))))))))
theorem bFlush_tree : (L2.bFlush).exe Tryz.prog (L2.cfg Tryz.prog) [] 20 200 = bFlush_t := by kernel_rfl
theorem bFlush_vc (Q : List Int → List (List Int) → Prop) (v0 v1 : Int) (L0 : List Int) : bFlush_t.dn ⟨Q, []⟩ 2 [v1, v0] 1 [L0] = (((v0 < (0 : Int)) → Q [(0 : Int)] [L0]) ∧
(((0 : Int) ≤ v0) → ((v1 < (0 : Int)) → Q [(0 : Int)] [L0]) ∧
(((0 : Int) ≤ v1) → (((8 : Int) ≤ v1) → Q [(0 : Int)] [L0]) ∧
((v1 < (8 : Int)) → ∀ v5 : Int, v5 = (v1).tmod (4 : Int) → ∀ v6 : Int, v6 = v5 * (10 : Int) → ∀ v7 : Int, v7 = (L0).getD (v6).toNat 0 → ((v0 = v7) → ∀ v9 : Int, v9 = v6 + (1 : Int) → ∀ v10 : Int, v10 = (L0).getD (v9).toNat 0 → ((v1 = v10) → ∀ L1 : List Int, L1 = (L0).set (v6).toNat ((-1) : Int) → ∀ L2 : List Int, L2 = (L1).set (v9).toNat (0 : Int) → ∀ v12 : Int, v12 = v6 + (2 : Int) → ∀ L3 : List Int, L3 = (L2).set (v12).toNat (0 : Int) → ∀ v13 : Int, v13 = v6 + (3 : Int) → ∀ L4 : List Int, L4 = (L3).set (v13).toNat (0 : Int) → Q [(1 : Int)] [L4]) ∧
((v1 ≠ v10) → ∀ v12 : Int, v12 = v6 + (5 : Int) → ∀ v13 : Int, v13 = (L0).getD (v12).toNat 0 → ((v0 = v13) → ∀ v15 : Int, v15 = v12 + (1 : Int) → ∀ v16 : Int, v16 = (L0).getD (v15).toNat 0 → ((v1 = v16) → ∀ L1 : List Int, L1 = (L0).set (v12).toNat ((-1) : Int) → ∀ L2 : List Int, L2 = (L1).set (v15).toNat (0 : Int) → ∀ v18 : Int, v18 = v12 + (2 : Int) → ∀ L3 : List Int, L3 = (L2).set (v18).toNat (0 : Int) → ∀ v19 : Int, v19 = v12 + (3 : Int) → ∀ L4 : List Int, L4 = (L3).set (v19).toNat (0 : Int) → Q [(1 : Int)] [L4]) ∧
((v1 ≠ v16) → Q [(0 : Int)] [L0])) ∧
((v0 ≠ v13) → Q [(0 : Int)] [L0]))) ∧
((v0 ≠ v7) → ∀ v9 : Int, v9 = v6 + (5 : Int) → ∀ v10 : Int, v10 = (L0).getD (v9).toNat 0 → ((v0 = v10) → ∀ v12 : Int, v12 = v9 + (1 : Int) → ∀ v13 : Int, v13 = (L0).getD (v12).toNat 0 → ((v1 = v13) → ∀ L1 : List Int, L1 = (L0).set (v9).toNat ((-1) : Int) → ∀ L2 : List Int, L2 = (L1).set (v12).toNat (0 : Int) → ∀ v15 : Int, v15 = v9 + (2 : Int) → ∀ L3 : List Int, L3 = (L2).set (v15).toNat (0 : Int) → ∀ v16 : Int, v16 = v9 + (3 : Int) → ∀ L4 : List Int, L4 = (L3).set (v16).toNat (0 : Int) → Q [(1 : Int)] [L4]) ∧
((v1 ≠ v13) → Q [(0 : Int)] [L0])) ∧
((v0 ≠ v10) → Q [(0 : Int)] [L0])))))) := by kernel_rfl
set_option maxHeartbeats 4000000 in
theorem bFlush_holds : (L2.bFlush).Holds Tryz.prog L2.ro := FSpec.holdsV (cfg := L2.cfg Tryz.prog) [] 20 200 cfg_ok mixed (t := bFlush_t) bFlush_tree (by
  show ∀ (v0 v1 : Int) (L0 : List Int), _
  intro v0 v1 L0 hp hr hl
  replace hr : (((-9223372036854775808) : Int) ≤ v0 ∧ v0 ≤ ((9223372036854775807) : Int)) ∧ (((-9223372036854775808) : Int) ≤ v1 ∧ v1 ≤ ((9223372036854775807) : Int)) ∧ True := hr
  replace hl : (∀ x ∈ L0, (((-9223372036854775808) : Int) ≤ x ∧ x ≤ ((9223372036854775807) : Int))) ∧ True := hl
  show bFlush_t.dn ⟨_, []⟩ 2 [v1, v0] 1 [L0]
  rw [bFlush_vc]
  have tm : 0 ≤ v1 → v1.tmod 4 = v1 % 4 := fun h => Int.tmod_eq_emod_of_nonneg h
  simp only [fnSpec_post, fnSpec_pre, true_and, List.cons.injEq, and_true, List.getD_cons_zero, List.getD_cons_succ, and_imp, forall_eq, b2i_zero, b2i_eq, ne_eq, Bool.not_eq_false, Bool.not_eq_true', Bool.not_eq_false', decide_eq_true_eq, decide_eq_false_iff_not, Int.not_lt, Int.not_le]
  repeat' first | refine And.intro ?_ ?_ | intro _
  all_goals clear hr hl hp
  all_goals first | omega | skip
  all_goals grind [flushB, emptyB, atB, hitB, baseB, gI, b2i])
noncomputable def bLines_t : Tree := .letI (.get 0 (.c 0)) (.letI (.get 0 (.c 1)) (.letI (.get 0 (.c 2)) (.letI (.get 0 (.c 3)) (.letI (.get 0 (.c 4)) (.letI (.get 0 (.c 5)) (.letI (.get 0 (.c 6)) (.letI (.get 0 (.c 7)) (.letI (.get 0 (.c 8)) (.letI (.get 0 (.c 9)) (.any (.c 1) (.c 9223372036854775807) (.letI (.mul (.v 10) (.c 4)) (.any (.c 2) (.c 9223372036854775807) (.letI (.mul (.v 12) (.c 4)) (.letI (.get 0 (.c 10)) (.letI (.get 0 (.c 11)) (.letI (.get 0 (.c 12)) (.letI (.get 0 (.c 13)) (.letI (.get 0 (.c 14)) (.letI (.get 0 (.c 15)) (.letI (.get 0 (.c 16)) (.letI (.get 0 (.c 17)) (.letI (.get 0 (.c 18)) (.letI (.get 0 (.c 19)) (.any (.c 3) (.c 9223372036854775807) (.letI (.mul (.v 24) (.c 4)) (.any (.c 4) (.c 9223372036854775807) (.letI (.mul (.v 26) (.c 4)) (.letI (.get 0 (.c 20)) (.letI (.get 0 (.c 21)) (.letI (.get 0 (.c 22)) (.letI (.get 0 (.c 23)) (.letI (.get 0 (.c 24)) (.letI (.get 0 (.c 25)) (.letI (.get 0 (.c 26)) (.letI (.get 0 (.c 27)) (.letI (.get 0 (.c 28)) (.letI (.get 0 (.c 29)) (.any (.c 5) (.c 9223372036854775807) (.letI (.mul (.v 38) (.c 4)) (.any (.c 6) (.c 9223372036854775807) (.letI (.mul (.v 40) (.c 4)) (.letI (.get 0 (.c 30)) (.letI (.get 0 (.c 31)) (.letI (.get 0 (.c 32)) (.letI (.get 0 (.c 33)) (.letI (.get 0 (.c 34)) (.letI (.get 0 (.c 35)) (.letI (.get 0 (.c 36)) (.letI (.get 0 (.c 37)) (.letI (.get 0 (.c 38)) (.letI (.get 0 (.c 39)) (.any (.c 7) (.c 9223372036854775807) (.letI (.mul (.v 52) (.c 4)) (.any (.c 8) (.c 9223372036854775807) (.letI (.mul (.v 54) (.c 4)) (.letL (.lit [.v 0, .v 1, .v 2, .v 3, .v 5, .v 6, .v 7, .v 8, .v 14, .v 15, .v 16, .v 17, .v 19, .v 20, .v 21, .v 22, .v 28, .v 29, .v 30, .v 31, .v 33, .v 34, .v 35, .v 36, .v 42, .v 43, .v 44, .v 45, .v 47, .v 48, .v 49, .v 50]) (.done [.v 54, .v 55] [1])))))))))))))))))))))))))))))))))))))))))))))))))))))))))
theorem bLines_tree : (L2.bLines).exe Tryz.prog (L2.cfg Tryz.prog) [] 20 200 = bLines_t := by kernel_rfl
theorem bLines_vc (Q : List Int → List (List Int) → Prop) (L0 : List Int) : bLines_t.dn ⟨Q, []⟩ 0 [] 1 [L0] = (∀ v0 : Int, v0 = (L0).getD ((0 : Int)).toNat 0 → ∀ v1 : Int, v1 = (L0).getD ((1 : Int)).toNat 0 → ∀ v2 : Int, v2 = (L0).getD ((2 : Int)).toNat 0 → ∀ v3 : Int, v3 = (L0).getD ((3 : Int)).toNat 0 → ∀ v4 : Int, v4 = (L0).getD ((4 : Int)).toNat 0 → ∀ v5 : Int, v5 = (L0).getD ((5 : Int)).toNat 0 → ∀ v6 : Int, v6 = (L0).getD ((6 : Int)).toNat 0 → ∀ v7 : Int, v7 = (L0).getD ((7 : Int)).toNat 0 → ∀ v8 : Int, v8 = (L0).getD ((8 : Int)).toNat 0 → ∀ v9 : Int, v9 = (L0).getD ((9 : Int)).toNat 0 → ∀ v10 : Int, (1 : Int) ≤ v10 → v10 ≤ (9223372036854775807 : Int) → ∀ v11 : Int, v11 = v10 * (4 : Int) → ∀ v12 : Int, (2 : Int) ≤ v12 → v12 ≤ (9223372036854775807 : Int) → ∀ v13 : Int, v13 = v12 * (4 : Int) → ∀ v14 : Int, v14 = (L0).getD ((10 : Int)).toNat 0 → ∀ v15 : Int, v15 = (L0).getD ((11 : Int)).toNat 0 → ∀ v16 : Int, v16 = (L0).getD ((12 : Int)).toNat 0 → ∀ v17 : Int, v17 = (L0).getD ((13 : Int)).toNat 0 → ∀ v18 : Int, v18 = (L0).getD ((14 : Int)).toNat 0 → ∀ v19 : Int, v19 = (L0).getD ((15 : Int)).toNat 0 → ∀ v20 : Int, v20 = (L0).getD ((16 : Int)).toNat 0 → ∀ v21 : Int, v21 = (L0).getD ((17 : Int)).toNat 0 → ∀ v22 : Int, v22 = (L0).getD ((18 : Int)).toNat 0 → ∀ v23 : Int, v23 = (L0).getD ((19 : Int)).toNat 0 → ∀ v24 : Int, (3 : Int) ≤ v24 → v24 ≤ (9223372036854775807 : Int) → ∀ v25 : Int, v25 = v24 * (4 : Int) → ∀ v26 : Int, (4 : Int) ≤ v26 → v26 ≤ (9223372036854775807 : Int) → ∀ v27 : Int, v27 = v26 * (4 : Int) → ∀ v28 : Int, v28 = (L0).getD ((20 : Int)).toNat 0 → ∀ v29 : Int, v29 = (L0).getD ((21 : Int)).toNat 0 → ∀ v30 : Int, v30 = (L0).getD ((22 : Int)).toNat 0 → ∀ v31 : Int, v31 = (L0).getD ((23 : Int)).toNat 0 → ∀ v32 : Int, v32 = (L0).getD ((24 : Int)).toNat 0 → ∀ v33 : Int, v33 = (L0).getD ((25 : Int)).toNat 0 → ∀ v34 : Int, v34 = (L0).getD ((26 : Int)).toNat 0 → ∀ v35 : Int, v35 = (L0).getD ((27 : Int)).toNat 0 → ∀ v36 : Int, v36 = (L0).getD ((28 : Int)).toNat 0 → ∀ v37 : Int, v37 = (L0).getD ((29 : Int)).toNat 0 → ∀ v38 : Int, (5 : Int) ≤ v38 → v38 ≤ (9223372036854775807 : Int) → ∀ v39 : Int, v39 = v38 * (4 : Int) → ∀ v40 : Int, (6 : Int) ≤ v40 → v40 ≤ (9223372036854775807 : Int) → ∀ v41 : Int, v41 = v40 * (4 : Int) → ∀ v42 : Int, v42 = (L0).getD ((30 : Int)).toNat 0 → ∀ v43 : Int, v43 = (L0).getD ((31 : Int)).toNat 0 → ∀ v44 : Int, v44 = (L0).getD ((32 : Int)).toNat 0 → ∀ v45 : Int, v45 = (L0).getD ((33 : Int)).toNat 0 → ∀ v46 : Int, v46 = (L0).getD ((34 : Int)).toNat 0 → ∀ v47 : Int, v47 = (L0).getD ((35 : Int)).toNat 0 → ∀ v48 : Int, v48 = (L0).getD ((36 : Int)).toNat 0 → ∀ v49 : Int, v49 = (L0).getD ((37 : Int)).toNat 0 → ∀ v50 : Int, v50 = (L0).getD ((38 : Int)).toNat 0 → ∀ v51 : Int, v51 = (L0).getD ((39 : Int)).toNat 0 → ∀ v52 : Int, (7 : Int) ≤ v52 → v52 ≤ (9223372036854775807 : Int) → ∀ v53 : Int, v53 = v52 * (4 : Int) → ∀ v54 : Int, (8 : Int) ≤ v54 → v54 ≤ (9223372036854775807 : Int) → ∀ v55 : Int, v55 = v54 * (4 : Int) → ∀ L1 : List Int, L1 = [v0, v1, v2, v3, v5, v6, v7, v8, v14, v15, v16, v17, v19, v20, v21, v22, v28, v29, v30, v31, v33, v34, v35, v36, v42, v43, v44, v45, v47, v48, v49, v50] → Q [v54, v55] [L1]) := by kernel_rfl
set_option maxHeartbeats 4000000 in
theorem bLines_holds : (L2.bLines).Holds Tryz.prog L2.ro := FSpec.holdsV (cfg := L2.cfg Tryz.prog) [] 20 200 cfg_ok mixed (t := bLines_t) bLines_tree (by
  show ∀ (L0 : List Int), _
  intro  L0 hp hr hl
  replace hr : True := hr
  replace hl : (∀ x ∈ L0, (((-9223372036854775808) : Int) ≤ x ∧ x ≤ ((9223372036854775807) : Int))) ∧ True := hl
  show bLines_t.dn ⟨_, []⟩ 0 [] 1 [L0]
  rw [bLines_vc]
  simp only [fnSpec_post, fnSpec_pre, true_and, List.cons.injEq, and_true, List.getD_cons_zero, List.getD_cons_succ, and_imp, forall_eq, b2i_zero, b2i_eq, ne_eq, Bool.not_eq_false, Bool.not_eq_true', Bool.not_eq_false', decide_eq_true_eq, decide_eq_false_iff_not, Int.not_lt, Int.not_le]
  repeat' first | refine And.intro ?_ ?_ | intro _
  all_goals first | omega | skip
  all_goals rfl)
end Go.Proofs.YtbpilohnhhbbpaaGreatDoor
/- Contract: a walk. -/
set_option linter.unusedVariables false
set_option linter.unusedSimpArgs false
open Go Go.Sx
namespace Go.Proofs.YtbpilohnhhbbpaaGreatDoor
set_option maxRecDepth 100000
theorem ua_ok : (withS (L2.cfg Tryz.prog) [L2.lets_ L2.f_pte_Lets, L2.tAt, L2.bFind, L2.bFill, L2.bFlush]).Ok Tryz.prog := withS_ok cfg_ok ⟨pLets_holds, tAt_holds, bFind_holds, bFill_holds, bFlush_holds, trivial⟩
noncomputable def uWalk_t : Tree := .call 116 (Go.Sx.L2.bFind).rel [.v 0, .v 1] [0] 5 0 (.ite (.v 7) (.call 114 (Go.Sx.L2.lets_ Go.Sx.L2.f_pte_Lets).rel [.v 6, .v 2] [] 1 0 (.ite (.v 8) (.done [.v 3, .v 4, .v 5, .v 6, .c (1)] [0]) (.call 94 (Go.Sx.L2.tAt).rel [.v 1] [1] 4 0 (.call 114 (Go.Sx.L2.lets_ Go.Sx.L2.f_pte_Lets).rel [.v 11, .v 2] [] 1 0 (.letI (.not (.v 13)) (.ite (.v 14) (.call 117 (Go.Sx.L2.bFlush).rel [.v 0, .v 1] [0] 1 1 (.done [.c (0), .c (0), .c (0), .c (0), .c (0)] [2])) (.call 39 (Go.Sx.L2.bFill).rel [.v 0, .v 1, .v 9, .v 11] [0] 1 1 (.done [.v 0, .v 1, .v 9, .v 11, .c (1)] [2])))))))) (.call 94 (Go.Sx.L2.tAt).rel [.v 1] [1] 4 0 (.call 114 (Go.Sx.L2.lets_ Go.Sx.L2.f_pte_Lets).rel [.v 10, .v 2] [] 1 0 (.letI (.not (.v 12)) (.ite (.v 13) (.call 117 (Go.Sx.L2.bFlush).rel [.v 0, .v 1] [0] 1 1 (.done [.c (0), .c (0), .c (0), .c (0), .c (0)] [2])) (.call 39 (Go.Sx.L2.bFill).rel [.v 0, .v 1, .v 8, .v 10] [0] 1 1 (.done [.v 0, .v 1, .v 8, .v 10, .c (1)] [2])))))))
theorem uWalk_tree : (L2.uWalk).exe Tryz.prog (withS (L2.cfg Tryz.prog) [L2.lets_ L2.f_pte_Lets, L2.tAt, L2.bFind, L2.bFill, L2.bFlush]) [] 20 200 = uWalk_t := by kernel_rfl
theorem uWalk_vc (Q : List Int → List (List Int) → Prop) (v0 v1 v2 : Int) (L0 L1 : List Int) : uWalk_t.dn ⟨Q, []⟩ 3 [v2, v1, v0] 2 [L1, L0] = ((Go.Sx.L2.bFind).rel.pre [v0, v1] [L0] ∧
(∀ v3 : Int, ∀ v4 : Int, ∀ v5 : Int, ∀ v6 : Int, ∀ v7 : Int, (Go.Sx.L2.bFind).rel.post [v0, v1] [L0] [v3, v4, v5, v6, v7] [] → (v7 ≠ 0 → (Go.Sx.L2.lets_ Go.Sx.L2.f_pte_Lets).rel.pre [v6, v2] [] ∧
(∀ v8 : Int, (Go.Sx.L2.lets_ Go.Sx.L2.f_pte_Lets).rel.post [v6, v2] [] [v8] [] → (v8 ≠ 0 → Q [v3, v4, v5, v6, (1 : Int)] [L0]) ∧
(v8 = 0 → (Go.Sx.L2.tAt).rel.pre [v1] [L1] ∧
(∀ v9 : Int, ∀ v10 : Int, ∀ v11 : Int, ∀ v12 : Int, (Go.Sx.L2.tAt).rel.post [v1] [L1] [v9, v10, v11, v12] [] → (Go.Sx.L2.lets_ Go.Sx.L2.f_pte_Lets).rel.pre [v11, v2] [] ∧
(∀ v13 : Int, (Go.Sx.L2.lets_ Go.Sx.L2.f_pte_Lets).rel.post [v11, v2] [] [v13] [] → ∀ v14 : Int, v14 = b2i (v13 == 0) → (v14 ≠ 0 → (Go.Sx.L2.bFlush).rel.pre [v0, v1] [L0] ∧
(∀ v15 : Int, ∀ L2 : List Int, (Go.Sx.L2.bFlush).rel.post [v0, v1] [L0] [v15] [L2] → Q [(0 : Int), (0 : Int), (0 : Int), (0 : Int), (0 : Int)] [L2])) ∧
(v14 = 0 → (Go.Sx.L2.bFill).rel.pre [v0, v1, v9, v11] [L0] ∧
(∀ v15 : Int, ∀ L2 : List Int, (Go.Sx.L2.bFill).rel.post [v0, v1, v9, v11] [L0] [v15] [L2] → Q [v0, v1, v9, v11, (1 : Int)] [L2]))))))) ∧
(v7 = 0 → (Go.Sx.L2.tAt).rel.pre [v1] [L1] ∧
(∀ v8 : Int, ∀ v9 : Int, ∀ v10 : Int, ∀ v11 : Int, (Go.Sx.L2.tAt).rel.post [v1] [L1] [v8, v9, v10, v11] [] → (Go.Sx.L2.lets_ Go.Sx.L2.f_pte_Lets).rel.pre [v10, v2] [] ∧
(∀ v12 : Int, (Go.Sx.L2.lets_ Go.Sx.L2.f_pte_Lets).rel.post [v10, v2] [] [v12] [] → ∀ v13 : Int, v13 = b2i (v12 == 0) → (v13 ≠ 0 → (Go.Sx.L2.bFlush).rel.pre [v0, v1] [L0] ∧
(∀ v14 : Int, ∀ L2 : List Int, (Go.Sx.L2.bFlush).rel.post [v0, v1] [L0] [v14] [L2] → Q [(0 : Int), (0 : Int), (0 : Int), (0 : Int), (0 : Int)] [L2])) ∧
(v13 = 0 → (Go.Sx.L2.bFill).rel.pre [v0, v1, v8, v10] [L0] ∧
(∀ v14 : Int, ∀ L2 : List Int, (Go.Sx.L2.bFill).rel.post [v0, v1, v8, v10] [L0] [v14] [L2] → Q [v0, v1, v8, v10, (1 : Int)] [L2]))))))) := by kernel_rfl
set_option maxHeartbeats 4000000 in
theorem uWalk_holds : (L2.uWalk).Holds Tryz.prog L2.ro := FSpec.holdsV (cfg := withS (L2.cfg Tryz.prog) [L2.lets_ L2.f_pte_Lets, L2.tAt, L2.bFind, L2.bFill, L2.bFlush]) [] 20 200 ua_ok mixed (t := uWalk_t) uWalk_tree (by
  show ∀ (v0 v1 v2 : Int) (L0 L1 : List Int), _
  intro v0 v1 v2 L0 L1 hp hr hl
  replace hr : (((-9223372036854775808) : Int) ≤ v0 ∧ v0 ≤ ((9223372036854775807) : Int)) ∧ (((-9223372036854775808) : Int) ≤ v1 ∧ v1 ≤ ((9223372036854775807) : Int)) ∧ (((-9223372036854775808) : Int) ≤ v2 ∧ v2 ≤ ((9223372036854775807) : Int)) ∧ True := hr
  replace hl : (∀ x ∈ L0, (((-9223372036854775808) : Int) ≤ x ∧ x ≤ ((9223372036854775807) : Int))) ∧ (∀ x ∈ L1, (((-9223372036854775808) : Int) ≤ x ∧ x ≤ ((9223372036854775807) : Int))) ∧ True := hl
  show uWalk_t.dn ⟨_, []⟩ 3 [v2, v1, v0] 2 [L1, L0]
  rw [uWalk_vc]
  simp only [fnSpec_post, fnSpec_pre, true_and, List.cons.injEq, and_true, List.getD_cons_zero, List.getD_cons_succ, and_imp, forall_eq, b2i_zero, b2i_eq, ne_eq, Bool.not_eq_false, Bool.not_eq_true', Bool.not_eq_false', decide_eq_true_eq, decide_eq_false_iff_not, Int.not_lt, Int.not_le]
  repeat' first | refine And.intro ?_ ?_ | intro _
  all_goals clear hr hl hp
  all_goals grind [walkV, walkOk, walkB, hitW, tabW, b2i, findB])
end Go.Proofs.YtbpilohnhhbbpaaGreatDoor
