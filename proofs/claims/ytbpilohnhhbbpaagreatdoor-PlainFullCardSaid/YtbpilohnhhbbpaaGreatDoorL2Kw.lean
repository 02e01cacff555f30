/- Contracts: words of calls. -/
import Derived.Test.YtbpilohnhhbbpaaGreatDoorL2Facts
import Derived.Test.YtbpilohnhhbbpaaGreatDoorSxM7
import Derived.Test.YtbpilohnhhbbpaaGreatDoorL2K
set_option linter.unusedVariables false
set_option linter.constructorNameAsVariable false
set_option linter.unusedSimpArgs false
open Go Go.Sx
namespace Go.Proofs.YtbpilohnhhbbpaaGreatDoor
set_option maxRecDepth 100000
noncomputable def wKind_t : Tree := .letI (.cmp .leq (.c 1) (.v 0)) (.ite (.v 5) (.letI (.cmp .leq (.v 0) (.c 10)) (.ite (.v 6) (.done [.v 0, .c (1)] []) (.letI (.cmp .leq (.c 20) (.v 0)) (.ite (.v 7) (.letI (.cmp .leq (.v 0) (.c 23)) (.ite (.v 8) (.done [.v 0, .c (1)] []) (.done [.c (0), .c (0)] []))) (.done [.c (0), .c (0)] []))))) (.done [.c (0), .c (0)] []))
theorem wKind_tree : (L2.kind_ L2.f_word_Kind).exe Tryz.prog (L2.cfg Tryz.prog) [] 20 200 = wKind_t := by kernel_rfl
theorem wKind_vc (Q : List Int → List (List Int) → Prop) (v0 v1 v2 v3 v4 : Int) : wKind_t.dn ⟨Q, []⟩ 5 [v4, v3, v2, v1, v0] 0 [] = ((((1 : Int) ≤ v0) → ((v0 ≤ (10 : Int)) → Q [v0, (1 : Int)] []) ∧
(((10 : Int) < v0) → (((20 : Int) ≤ v0) → ((v0 ≤ (23 : Int)) → Q [v0, (1 : Int)] []) ∧
(((23 : Int) < v0) → Q [(0 : Int), (0 : Int)] [])) ∧
((v0 < (20 : Int)) → Q [(0 : Int), (0 : Int)] []))) ∧
((v0 < (1 : Int)) → Q [(0 : Int), (0 : Int)] [])) := by kernel_rfl
set_option maxHeartbeats 4000000 in
theorem wKind_holds : (L2.kind_ L2.f_word_Kind).Holds Tryz.prog L2.ro := FSpec.holdsV (cfg := L2.cfg Tryz.prog) [] 20 200 cfg_ok mixed (t := wKind_t) wKind_tree (by
  show ∀ (v0 v1 v2 v3 v4 : Int) , _
  intro v0 v1 v2 v3 v4  hp hr hl
  replace hr : (((0) : Int) ≤ v0 ∧ v0 ≤ ((18446744073709551615) : Int)) ∧ (((0) : Int) ≤ v1 ∧ v1 ≤ ((18446744073709551615) : Int)) ∧ (((0) : Int) ≤ v2 ∧ v2 ≤ ((18446744073709551615) : Int)) ∧ (((0) : Int) ≤ v3 ∧ v3 ≤ ((18446744073709551615) : Int)) ∧ (((0) : Int) ≤ v4 ∧ v4 ≤ ((18446744073709551615) : Int)) ∧ True := hr
  replace hl : True := hl
  show wKind_t.dn ⟨_, []⟩ 5 [v4, v3, v2, v1, v0] 0 []
  rw [wKind_vc]
  repeat' first | refine And.intro ?_ ?_ | intro _
  all_goals
    show [_, _] = [callN v0, b2i (callOk v0)]
    grind [callN, callOk, b2i])
noncomputable def rKind_t : Tree := .letI (.cmp .leq (.c 1) (.v 0)) (.ite (.v 5) (.letI (.cmp .leq (.v 0) (.c 10)) (.ite (.v 6) (.done [.v 0, .c (1)] []) (.letI (.cmp .leq (.c 20) (.v 0)) (.ite (.v 7) (.letI (.cmp .leq (.v 0) (.c 23)) (.ite (.v 8) (.done [.v 0, .c (1)] []) (.done [.c (0), .c (0)] []))) (.done [.c (0), .c (0)] []))))) (.done [.c (0), .c (0)] []))
theorem rKind_tree : (L2.kind_ L2.f_messuageref2_Kind).exe Tryz.prog (L2.cfg Tryz.prog) [] 20 200 = rKind_t := by kernel_rfl
theorem rKind_vc (Q : List Int → List (List Int) → Prop) (v0 v1 v2 v3 v4 : Int) : rKind_t.dn ⟨Q, []⟩ 5 [v4, v3, v2, v1, v0] 0 [] = ((((1 : Int) ≤ v0) → ((v0 ≤ (10 : Int)) → Q [v0, (1 : Int)] []) ∧
(((10 : Int) < v0) → (((20 : Int) ≤ v0) → ((v0 ≤ (23 : Int)) → Q [v0, (1 : Int)] []) ∧
(((23 : Int) < v0) → Q [(0 : Int), (0 : Int)] [])) ∧
((v0 < (20 : Int)) → Q [(0 : Int), (0 : Int)] []))) ∧
((v0 < (1 : Int)) → Q [(0 : Int), (0 : Int)] [])) := by kernel_rfl
set_option maxHeartbeats 4000000 in
theorem rKind_holds : (L2.kind_ L2.f_messuageref2_Kind).Holds Tryz.prog L2.ro := FSpec.holdsV (cfg := L2.cfg Tryz.prog) [] 20 200 cfg_ok mixed (t := rKind_t) rKind_tree (by
  show ∀ (v0 v1 v2 v3 v4 : Int) , _
  intro v0 v1 v2 v3 v4  hp hr hl
  replace hr : (((0) : Int) ≤ v0 ∧ v0 ≤ ((18446744073709551615) : Int)) ∧ (((0) : Int) ≤ v1 ∧ v1 ≤ ((18446744073709551615) : Int)) ∧ (((0) : Int) ≤ v2 ∧ v2 ≤ ((18446744073709551615) : Int)) ∧ (((0) : Int) ≤ v3 ∧ v3 ≤ ((18446744073709551615) : Int)) ∧ (((0) : Int) ≤ v4 ∧ v4 ≤ ((18446744073709551615) : Int)) ∧ True := hr
  replace hl : True := hl
  show rKind_t.dn ⟨_, []⟩ 5 [v4, v3, v2, v1, v0] 0 []
  rw [rKind_vc]
  repeat' first | refine And.intro ?_ ?_ | intro _
  all_goals
    show [_, _] = [callN v0, b2i (callOk v0)]
    grind [callN, callOk, b2i])
noncomputable def wCheck_t : Tree := .letI (.cmp .leq (.c 1) (.v 0)) (.ite (.v 6) (.letI (.cmp .leq (.v 0) (.c 10)) (.ite (.v 7) (.letI (.cmp .eql (.v 0) (.c 1)) (.ite (.v 8) (.letI (.cmp .leq (.c 8) (.v 1)) (.ite (.v 9) (.done [.c (2)] []) (.done [.c (0)] []))) (.letI (.cmp .eql (.v 0) (.c 4)) (.ite (.v 9) (.letI (.cmp .leq (.c 8) (.v 1)) (.ite (.v 10) (.done [.c (2)] []) (.done [.c (0)] []))) (.letI (.cmp .eql (.v 0) (.c 5)) (.ite (.v 10) (.letI (.cmp .leq (.c 8) (.v 1)) (.ite (.v 11) (.done [.c (2)] []) (.done [.c (0)] []))) (.letI (.cmp .eql (.v 0) (.c 2)) (.ite (.v 11) (.letI (.cmp .leq (.c 8) (.v 1)) (.ite (.v 12) (.done [.c (2)] []) (.letI (.cmp .leq (.c 8) (.v 2)) (.ite (.v 13) (.done [.c (2)] []) (.letI (.cmp .lss (.v 3) (.c 1)) (.ite (.v 14) (.done [.c (2)] []) (.letI (.cmp .lss (.c 3) (.v 3)) (.ite (.v 15) (.done [.c (2)] []) (.done [.c (0)] []))))))))) (.letI (.cmp .eql (.v 0) (.c 3)) (.ite (.v 12) (.letI (.cmp .leq (.c 8) (.v 1)) (.ite (.v 13) (.done [.c (2)] []) (.letI (.cmp .leq (.v 5) (.c 0)) (.ite (.v 14) (.done [.c (2)] []) (.letI (.cmp .leq (.v 5) (.v 2)) (.ite (.v 15) (.done [.c (2)] []) (.letI (.cmp .leq (.c 8) (.v 3)) (.ite (.v 16) (.done [.c (2)] []) (.letI (.cmp .lss (.v 4) (.c 1)) (.ite (.v 17) (.done [.c (2)] []) (.letI (.cmp .lss (.c 3) (.v 4)) (.ite (.v 18) (.done [.c (2)] []) (.done [.c (0)] []))))))))))))) (.letI (.cmp .eql (.v 0) (.c 6)) (.ite (.v 13) (.letI (.cmp .leq (.c 8) (.v 1)) (.ite (.v 14) (.done [.c (2)] []) (.letI (.cmp .leq (.c 8) (.v 2)) (.ite (.v 15) (.done [.c (2)] []) (.letI (.cmp .lss (.v 3) (.c 1)) (.ite (.v 16) (.done [.c (2)] []) (.letI (.cmp .lss (.c 3) (.v 3)) (.ite (.v 17) (.done [.c (2)] []) (.done [.c (0)] []))))))))) (.letI (.cmp .eql (.v 0) (.c 7)) (.ite (.v 14) (.letI (.cmp .leq (.c 8) (.v 1)) (.ite (.v 15) (.done [.c (2)] []) (.done [.c (0)] []))) (.letI (.cmp .eql (.v 0) (.c 8)) (.ite (.v 15) (.letI (.cmp .leq (.c 8) (.v 1)) (.ite (.v 16) (.done [.c (2)] []) (.letI (.cmp .lss (.v 2) (.c 1)) (.ite (.v 17) (.done [.c (2)] []) (.letI (.cmp .lss (.c 3) (.v 2)) (.ite (.v 18) (.done [.c (2)] []) (.done [.c (0)] []))))))) (.letI (.cmp .eql (.v 0) (.c 9)) (.ite (.v 16) (.letI (.cmp .leq (.c 8) (.v 1)) (.ite (.v 17) (.done [.c (2)] []) (.letI (.cmp .leq (.c 16) (.v 2)) (.ite (.v 18) (.done [.c (2)] []) (.letI (.cmp .leq (.c 1) (.v 3)) (.ite (.v 19) (.letI (.cmp .leq (.v 3) (.c 4)) (.letI (.not (.v 20)) (.ite (.v 21) (.done [.c (2)] []) (.done [.c (0)] [])))) (.done [.c (2)] []))))))) (.done [.c (0)] []))))))))))))))))))) (.letI (.cmp .leq (.c 20) (.v 0)) (.ite (.v 8) (.letI (.cmp .leq (.v 0) (.c 23)) (.ite (.v 9) (.letI (.cmp .eql (.v 0) (.c 20)) (.ite (.v 10) (.letI (.cmp .leq (.c 8) (.v 1)) (.ite (.v 11) (.done [.c (2)] []) (.letI (.cmp .leq (.c 16) (.v 2)) (.ite (.v 12) (.done [.c (2)] []) (.done [.c (0)] []))))) (.letI (.cmp .eql (.v 0) (.c 21)) (.ite (.v 11) (.letI (.cmp .leq (.c 8) (.v 1)) (.ite (.v 12) (.done [.c (2)] []) (.letI (.cmp .leq (.c 16) (.v 2)) (.ite (.v 13) (.done [.c (2)] []) (.done [.c (0)] []))))) (.letI (.cmp .eql (.v 0) (.c 23)) (.ite (.v 12) (.letI (.cmp .leq (.c 8) (.v 1)) (.ite (.v 13) (.done [.c (2)] []) (.letI (.cmp .leq (.c 16) (.v 2)) (.ite (.v 14) (.done [.c (2)] []) (.done [.c (0)] []))))) (.letI (.cmp .leq (.c 8) (.v 1)) (.ite (.v 13) (.done [.c (2)] []) (.letI (.cmp .leq (.c 16) (.v 2)) (.ite (.v 14) (.done [.c (2)] []) (.done [.c (0)] []))))))))))) (.done [.c (1)] []))) (.done [.c (1)] []))))) (.done [.c (1)] []))
theorem wCheck_tree : (L2.check_ L2.f_word_Check).exe Tryz.prog (L2.cfg Tryz.prog) [] 20 200 = wCheck_t := by kernel_rfl
theorem wCheck_vc (Q : List Int → List (List Int) → Prop) (v0 v1 v2 v3 v4 v5 : Int) : wCheck_t.dn ⟨Q, []⟩ 6 [v5, v4, v3, v2, v1, v0] 0 [] = ((((1 : Int) ≤ v0) → ((v0 ≤ (10 : Int)) → ((v0 = (1 : Int)) → (((8 : Int) ≤ v1) → Q [(2 : Int)] []) ∧
((v1 < (8 : Int)) → Q [(0 : Int)] [])) ∧
((v0 ≠ (1 : Int)) → ((v0 = (4 : Int)) → (((8 : Int) ≤ v1) → Q [(2 : Int)] []) ∧
((v1 < (8 : Int)) → Q [(0 : Int)] [])) ∧
((v0 ≠ (4 : Int)) → ((v0 = (5 : Int)) → (((8 : Int) ≤ v1) → Q [(2 : Int)] []) ∧
((v1 < (8 : Int)) → Q [(0 : Int)] [])) ∧
((v0 ≠ (5 : Int)) → ((v0 = (2 : Int)) → (((8 : Int) ≤ v1) → Q [(2 : Int)] []) ∧
((v1 < (8 : Int)) → (((8 : Int) ≤ v2) → Q [(2 : Int)] []) ∧
((v2 < (8 : Int)) → ((v3 < (1 : Int)) → Q [(2 : Int)] []) ∧
(((1 : Int) ≤ v3) → (((3 : Int) < v3) → Q [(2 : Int)] []) ∧
((v3 ≤ (3 : Int)) → Q [(0 : Int)] []))))) ∧
((v0 ≠ (2 : Int)) → ((v0 = (3 : Int)) → (((8 : Int) ≤ v1) → Q [(2 : Int)] []) ∧
((v1 < (8 : Int)) → ((v5 ≤ (0 : Int)) → Q [(2 : Int)] []) ∧
(((0 : Int) < v5) → ((v5 ≤ v2) → Q [(2 : Int)] []) ∧
((v2 < v5) → (((8 : Int) ≤ v3) → Q [(2 : Int)] []) ∧
((v3 < (8 : Int)) → ((v4 < (1 : Int)) → Q [(2 : Int)] []) ∧
(((1 : Int) ≤ v4) → (((3 : Int) < v4) → Q [(2 : Int)] []) ∧
((v4 ≤ (3 : Int)) → Q [(0 : Int)] []))))))) ∧
((v0 ≠ (3 : Int)) → ((v0 = (6 : Int)) → (((8 : Int) ≤ v1) → Q [(2 : Int)] []) ∧
((v1 < (8 : Int)) → (((8 : Int) ≤ v2) → Q [(2 : Int)] []) ∧
((v2 < (8 : Int)) → ((v3 < (1 : Int)) → Q [(2 : Int)] []) ∧
(((1 : Int) ≤ v3) → (((3 : Int) < v3) → Q [(2 : Int)] []) ∧
((v3 ≤ (3 : Int)) → Q [(0 : Int)] []))))) ∧
((v0 ≠ (6 : Int)) → ((v0 = (7 : Int)) → (((8 : Int) ≤ v1) → Q [(2 : Int)] []) ∧
((v1 < (8 : Int)) → Q [(0 : Int)] [])) ∧
((v0 ≠ (7 : Int)) → ((v0 = (8 : Int)) → (((8 : Int) ≤ v1) → Q [(2 : Int)] []) ∧
((v1 < (8 : Int)) → ((v2 < (1 : Int)) → Q [(2 : Int)] []) ∧
(((1 : Int) ≤ v2) → (((3 : Int) < v2) → Q [(2 : Int)] []) ∧
((v2 ≤ (3 : Int)) → Q [(0 : Int)] [])))) ∧
((v0 ≠ (8 : Int)) → ((v0 = (9 : Int)) → (((8 : Int) ≤ v1) → Q [(2 : Int)] []) ∧
((v1 < (8 : Int)) → (((16 : Int) ≤ v2) → Q [(2 : Int)] []) ∧
((v2 < (16 : Int)) → (((1 : Int) ≤ v3) → ∀ v20 : Int, v20 = b2i (decide (v3 ≤ (4 : Int))) → ∀ v21 : Int, v21 = b2i (v20 == 0) → (v21 ≠ 0 → Q [(2 : Int)] []) ∧
(v21 = 0 → Q [(0 : Int)] [])) ∧
((v3 < (1 : Int)) → Q [(2 : Int)] [])))) ∧
((v0 ≠ (9 : Int)) → Q [(0 : Int)] [])))))))))) ∧
(((10 : Int) < v0) → (((20 : Int) ≤ v0) → ((v0 ≤ (23 : Int)) → ((v0 = (20 : Int)) → (((8 : Int) ≤ v1) → Q [(2 : Int)] []) ∧
((v1 < (8 : Int)) → (((16 : Int) ≤ v2) → Q [(2 : Int)] []) ∧
((v2 < (16 : Int)) → Q [(0 : Int)] []))) ∧
((v0 ≠ (20 : Int)) → ((v0 = (21 : Int)) → (((8 : Int) ≤ v1) → Q [(2 : Int)] []) ∧
((v1 < (8 : Int)) → (((16 : Int) ≤ v2) → Q [(2 : Int)] []) ∧
((v2 < (16 : Int)) → Q [(0 : Int)] []))) ∧
((v0 ≠ (21 : Int)) → ((v0 = (23 : Int)) → (((8 : Int) ≤ v1) → Q [(2 : Int)] []) ∧
((v1 < (8 : Int)) → (((16 : Int) ≤ v2) → Q [(2 : Int)] []) ∧
((v2 < (16 : Int)) → Q [(0 : Int)] []))) ∧
((v0 ≠ (23 : Int)) → (((8 : Int) ≤ v1) → Q [(2 : Int)] []) ∧
((v1 < (8 : Int)) → (((16 : Int) ≤ v2) → Q [(2 : Int)] []) ∧
((v2 < (16 : Int)) → Q [(0 : Int)] [])))))) ∧
(((23 : Int) < v0) → Q [(1 : Int)] [])) ∧
((v0 < (20 : Int)) → Q [(1 : Int)] []))) ∧
((v0 < (1 : Int)) → Q [(1 : Int)] [])) := by kernel_rfl
set_option maxHeartbeats 4000000 in
theorem wCheck_holds : (L2.check_ L2.f_word_Check).Holds Tryz.prog L2.ro := FSpec.holdsV (cfg := L2.cfg Tryz.prog) [] 20 200 cfg_ok mixed (t := wCheck_t) wCheck_tree (by
  show ∀ (v0 v1 v2 v3 v4 v5 : Int) , _
  intro v0 v1 v2 v3 v4 v5  hp hr hl
  replace hr : (((0) : Int) ≤ v0 ∧ v0 ≤ ((18446744073709551615) : Int)) ∧ (((0) : Int) ≤ v1 ∧ v1 ≤ ((18446744073709551615) : Int)) ∧ (((0) : Int) ≤ v2 ∧ v2 ≤ ((18446744073709551615) : Int)) ∧ (((0) : Int) ≤ v3 ∧ v3 ≤ ((18446744073709551615) : Int)) ∧ (((0) : Int) ≤ v4 ∧ v4 ≤ ((18446744073709551615) : Int)) ∧ (((-9223372036854775808) : Int) ≤ v5 ∧ v5 ≤ ((9223372036854775807) : Int)) ∧ True := hr
  replace hl : True := hl
  show wCheck_t.dn ⟨_, []⟩ 6 [v5, v4, v3, v2, v1, v0] 0 []
  rw [wCheck_vc]
  repeat' first | refine And.intro ?_ ?_ | intro _
  all_goals first | omega | skip
  all_goals
    show [_] = [checkN v0 v1 v2 v3 v4 v5]
    grind [checkN, callOk, argsB, rightsB, opB, envB, b2i])
noncomputable def rCheck_t : Tree := .letI (.cmp .leq (.c 1) (.v 0)) (.ite (.v 6) (.letI (.cmp .leq (.v 0) (.c 10)) (.ite (.v 7) (.letI (.cmp .eql (.v 0) (.c 1)) (.ite (.v 8) (.letI (.cmp .leq (.c 8) (.v 1)) (.ite (.v 9) (.done [.c (2)] []) (.done [.c (0)] []))) (.letI (.cmp .eql (.v 0) (.c 2)) (.ite (.v 9) (.letI (.cmp .leq (.c 8) (.v 1)) (.ite (.v 10) (.done [.c (2)] []) (.letI (.cmp .leq (.c 8) (.v 2)) (.ite (.v 11) (.done [.c (2)] []) (.letI (.cmp .lss (.v 3) (.c 1)) (.ite (.v 12) (.done [.c (2)] []) (.letI (.cmp .lss (.c 3) (.v 3)) (.ite (.v 13) (.done [.c (2)] []) (.done [.c (0)] []))))))))) (.letI (.cmp .eql (.v 0) (.c 3)) (.ite (.v 10) (.letI (.cmp .leq (.c 8) (.v 1)) (.ite (.v 11) (.done [.c (2)] []) (.letI (.cmp .lss (.v 5) (.c 1)) (.ite (.v 12) (.done [.c (2)] []) (.letI (.cmp .leq (.v 5) (.v 2)) (.ite (.v 13) (.done [.c (2)] []) (.letI (.cmp .leq (.c 8) (.v 3)) (.ite (.v 14) (.done [.c (2)] []) (.letI (.cmp .lss (.v 4) (.c 1)) (.ite (.v 15) (.done [.c (2)] []) (.letI (.cmp .lss (.c 3) (.v 4)) (.ite (.v 16) (.done [.c (2)] []) (.done [.c (0)] []))))))))))))) (.letI (.cmp .eql (.v 0) (.c 4)) (.ite (.v 11) (.letI (.cmp .leq (.c 8) (.v 1)) (.ite (.v 12) (.done [.c (2)] []) (.done [.c (0)] []))) (.letI (.cmp .eql (.v 0) (.c 5)) (.ite (.v 12) (.letI (.cmp .leq (.c 8) (.v 1)) (.ite (.v 13) (.done [.c (2)] []) (.done [.c (0)] []))) (.letI (.cmp .eql (.v 0) (.c 6)) (.ite (.v 13) (.letI (.cmp .leq (.c 8) (.v 1)) (.ite (.v 14) (.done [.c (2)] []) (.letI (.cmp .leq (.c 8) (.v 2)) (.ite (.v 15) (.done [.c (2)] []) (.letI (.cmp .lss (.v 3) (.c 1)) (.ite (.v 16) (.done [.c (2)] []) (.letI (.cmp .lss (.c 3) (.v 3)) (.ite (.v 17) (.done [.c (2)] []) (.done [.c (0)] []))))))))) (.letI (.cmp .eql (.v 0) (.c 7)) (.ite (.v 14) (.letI (.cmp .leq (.c 8) (.v 1)) (.ite (.v 15) (.done [.c (2)] []) (.done [.c (0)] []))) (.letI (.cmp .eql (.v 0) (.c 8)) (.ite (.v 15) (.letI (.cmp .leq (.c 8) (.v 1)) (.ite (.v 16) (.done [.c (2)] []) (.letI (.cmp .lss (.v 2) (.c 1)) (.ite (.v 17) (.done [.c (2)] []) (.letI (.cmp .lss (.c 3) (.v 2)) (.ite (.v 18) (.done [.c (2)] []) (.done [.c (0)] []))))))) (.letI (.cmp .eql (.v 0) (.c 9)) (.ite (.v 16) (.letI (.cmp .leq (.c 8) (.v 1)) (.ite (.v 17) (.done [.c (2)] []) (.letI (.cmp .leq (.c 16) (.v 2)) (.ite (.v 18) (.done [.c (2)] []) (.letI (.cmp .lss (.v 3) (.c 1)) (.ite (.v 19) (.done [.c (2)] []) (.letI (.cmp .lss (.c 4) (.v 3)) (.ite (.v 20) (.done [.c (2)] []) (.done [.c (0)] []))))))))) (.done [.c (0)] []))))))))))))))))))) (.letI (.cmp .leq (.c 20) (.v 0)) (.ite (.v 8) (.letI (.cmp .leq (.v 0) (.c 23)) (.ite (.v 9) (.letI (.sub (.v 0) (.c 20)) (.letI (.cmp .eql (.v 10) (.c 0)) (.ite (.v 11) (.letI (.cmp .leq (.c 8) (.v 1)) (.ite (.v 12) (.done [.c (2)] []) (.letI (.cmp .leq (.c 16) (.v 2)) (.ite (.v 13) (.done [.c (2)] []) (.done [.c (0)] []))))) (.letI (.cmp .eql (.v 10) (.c 1)) (.ite (.v 12) (.letI (.cmp .leq (.c 8) (.v 1)) (.ite (.v 13) (.done [.c (2)] []) (.letI (.cmp .leq (.c 16) (.v 2)) (.ite (.v 14) (.done [.c (2)] []) (.done [.c (0)] []))))) (.letI (.cmp .eql (.v 10) (.c 2)) (.ite (.v 13) (.letI (.cmp .leq (.c 8) (.v 1)) (.ite (.v 14) (.done [.c (2)] []) (.letI (.cmp .leq (.c 16) (.v 2)) (.ite (.v 15) (.done [.c (2)] []) (.done [.c (0)] []))))) (.letI (.cmp .leq (.c 8) (.v 1)) (.ite (.v 14) (.done [.c (2)] []) (.letI (.cmp .leq (.c 16) (.v 2)) (.ite (.v 15) (.done [.c (2)] []) (.done [.c (0)] [])))))))))))) (.done [.c (1)] []))) (.done [.c (1)] []))))) (.done [.c (1)] []))
theorem rCheck_tree : (L2.check_ L2.f_messuageref2_Check).exe Tryz.prog (L2.cfg Tryz.prog) [] 20 200 = rCheck_t := by kernel_rfl
theorem rCheck_vc (Q : List Int → List (List Int) → Prop) (v0 v1 v2 v3 v4 v5 : Int) : rCheck_t.dn ⟨Q, []⟩ 6 [v5, v4, v3, v2, v1, v0] 0 [] = ((((1 : Int) ≤ v0) → ((v0 ≤ (10 : Int)) → ((v0 = (1 : Int)) → (((8 : Int) ≤ v1) → Q [(2 : Int)] []) ∧
((v1 < (8 : Int)) → Q [(0 : Int)] [])) ∧
((v0 ≠ (1 : Int)) → ((v0 = (2 : Int)) → (((8 : Int) ≤ v1) → Q [(2 : Int)] []) ∧
((v1 < (8 : Int)) → (((8 : Int) ≤ v2) → Q [(2 : Int)] []) ∧
((v2 < (8 : Int)) → ((v3 < (1 : Int)) → Q [(2 : Int)] []) ∧
(((1 : Int) ≤ v3) → (((3 : Int) < v3) → Q [(2 : Int)] []) ∧
((v3 ≤ (3 : Int)) → Q [(0 : Int)] []))))) ∧
((v0 ≠ (2 : Int)) → ((v0 = (3 : Int)) → (((8 : Int) ≤ v1) → Q [(2 : Int)] []) ∧
((v1 < (8 : Int)) → ((v5 < (1 : Int)) → Q [(2 : Int)] []) ∧
(((1 : Int) ≤ v5) → ((v5 ≤ v2) → Q [(2 : Int)] []) ∧
((v2 < v5) → (((8 : Int) ≤ v3) → Q [(2 : Int)] []) ∧
((v3 < (8 : Int)) → ((v4 < (1 : Int)) → Q [(2 : Int)] []) ∧
(((1 : Int) ≤ v4) → (((3 : Int) < v4) → Q [(2 : Int)] []) ∧
((v4 ≤ (3 : Int)) → Q [(0 : Int)] []))))))) ∧
((v0 ≠ (3 : Int)) → ((v0 = (4 : Int)) → (((8 : Int) ≤ v1) → Q [(2 : Int)] []) ∧
((v1 < (8 : Int)) → Q [(0 : Int)] [])) ∧
((v0 ≠ (4 : Int)) → ((v0 = (5 : Int)) → (((8 : Int) ≤ v1) → Q [(2 : Int)] []) ∧
((v1 < (8 : Int)) → Q [(0 : Int)] [])) ∧
((v0 ≠ (5 : Int)) → ((v0 = (6 : Int)) → (((8 : Int) ≤ v1) → Q [(2 : Int)] []) ∧
((v1 < (8 : Int)) → (((8 : Int) ≤ v2) → Q [(2 : Int)] []) ∧
((v2 < (8 : Int)) → ((v3 < (1 : Int)) → Q [(2 : Int)] []) ∧
(((1 : Int) ≤ v3) → (((3 : Int) < v3) → Q [(2 : Int)] []) ∧
((v3 ≤ (3 : Int)) → Q [(0 : Int)] []))))) ∧
((v0 ≠ (6 : Int)) → ((v0 = (7 : Int)) → (((8 : Int) ≤ v1) → Q [(2 : Int)] []) ∧
((v1 < (8 : Int)) → Q [(0 : Int)] [])) ∧
((v0 ≠ (7 : Int)) → ((v0 = (8 : Int)) → (((8 : Int) ≤ v1) → Q [(2 : Int)] []) ∧
((v1 < (8 : Int)) → ((v2 < (1 : Int)) → Q [(2 : Int)] []) ∧
(((1 : Int) ≤ v2) → (((3 : Int) < v2) → Q [(2 : Int)] []) ∧
((v2 ≤ (3 : Int)) → Q [(0 : Int)] [])))) ∧
((v0 ≠ (8 : Int)) → ((v0 = (9 : Int)) → (((8 : Int) ≤ v1) → Q [(2 : Int)] []) ∧
((v1 < (8 : Int)) → (((16 : Int) ≤ v2) → Q [(2 : Int)] []) ∧
((v2 < (16 : Int)) → ((v3 < (1 : Int)) → Q [(2 : Int)] []) ∧
(((1 : Int) ≤ v3) → (((4 : Int) < v3) → Q [(2 : Int)] []) ∧
((v3 ≤ (4 : Int)) → Q [(0 : Int)] []))))) ∧
((v0 ≠ (9 : Int)) → Q [(0 : Int)] [])))))))))) ∧
(((10 : Int) < v0) → (((20 : Int) ≤ v0) → ((v0 ≤ (23 : Int)) → ∀ v10 : Int, v10 = v0 - (20 : Int) → ((v10 = (0 : Int)) → (((8 : Int) ≤ v1) → Q [(2 : Int)] []) ∧
((v1 < (8 : Int)) → (((16 : Int) ≤ v2) → Q [(2 : Int)] []) ∧
((v2 < (16 : Int)) → Q [(0 : Int)] []))) ∧
((v10 ≠ (0 : Int)) → ((v10 = (1 : Int)) → (((8 : Int) ≤ v1) → Q [(2 : Int)] []) ∧
((v1 < (8 : Int)) → (((16 : Int) ≤ v2) → Q [(2 : Int)] []) ∧
((v2 < (16 : Int)) → Q [(0 : Int)] []))) ∧
((v10 ≠ (1 : Int)) → ((v10 = (2 : Int)) → (((8 : Int) ≤ v1) → Q [(2 : Int)] []) ∧
((v1 < (8 : Int)) → (((16 : Int) ≤ v2) → Q [(2 : Int)] []) ∧
((v2 < (16 : Int)) → Q [(0 : Int)] []))) ∧
((v10 ≠ (2 : Int)) → (((8 : Int) ≤ v1) → Q [(2 : Int)] []) ∧
((v1 < (8 : Int)) → (((16 : Int) ≤ v2) → Q [(2 : Int)] []) ∧
((v2 < (16 : Int)) → Q [(0 : Int)] [])))))) ∧
(((23 : Int) < v0) → Q [(1 : Int)] [])) ∧
((v0 < (20 : Int)) → Q [(1 : Int)] []))) ∧
((v0 < (1 : Int)) → Q [(1 : Int)] [])) := by kernel_rfl
set_option maxHeartbeats 4000000 in
theorem rCheck_holds : (L2.check_ L2.f_messuageref2_Check).Holds Tryz.prog L2.ro := FSpec.holdsV (cfg := L2.cfg Tryz.prog) [] 20 200 cfg_ok mixed (t := rCheck_t) rCheck_tree (by
  show ∀ (v0 v1 v2 v3 v4 v5 : Int) , _
  intro v0 v1 v2 v3 v4 v5  hp hr hl
  replace hr : (((0) : Int) ≤ v0 ∧ v0 ≤ ((18446744073709551615) : Int)) ∧ (((0) : Int) ≤ v1 ∧ v1 ≤ ((18446744073709551615) : Int)) ∧ (((0) : Int) ≤ v2 ∧ v2 ≤ ((18446744073709551615) : Int)) ∧ (((0) : Int) ≤ v3 ∧ v3 ≤ ((18446744073709551615) : Int)) ∧ (((0) : Int) ≤ v4 ∧ v4 ≤ ((18446744073709551615) : Int)) ∧ (((-9223372036854775808) : Int) ≤ v5 ∧ v5 ≤ ((9223372036854775807) : Int)) ∧ True := hr
  replace hl : True := hl
  show rCheck_t.dn ⟨_, []⟩ 6 [v5, v4, v3, v2, v1, v0] 0 []
  rw [rCheck_vc]
  repeat' first | refine And.intro ?_ ?_ | intro _
  all_goals first | omega | skip
  all_goals
    show [_] = [checkN v0 v1 v2 v3 v4 v5]
    grind [checkN, callOk, argsB, rightsB, opB, envB, b2i])
noncomputable def wArgs_t : Tree := .letI (.cmp .eql (.v 0) (.c 1)) (.ite (.v 1) (.done [.c (1)] []) (.letI (.cmp .eql (.v 0) (.c 4)) (.ite (.v 2) (.done [.c (1)] []) (.letI (.cmp .eql (.v 0) (.c 5)) (.ite (.v 3) (.done [.c (1)] []) (.letI (.cmp .eql (.v 0) (.c 2)) (.ite (.v 4) (.done [.c (3)] []) (.letI (.cmp .eql (.v 0) (.c 3)) (.ite (.v 5) (.done [.c (4)] []) (.letI (.cmp .eql (.v 0) (.c 6)) (.ite (.v 6) (.done [.c (3)] []) (.letI (.cmp .eql (.v 0) (.c 7)) (.ite (.v 7) (.done [.c (1)] []) (.letI (.cmp .eql (.v 0) (.c 8)) (.ite (.v 8) (.done [.c (2)] []) (.letI (.cmp .eql (.v 0) (.c 9)) (.ite (.v 9) (.done [.c (4)] []) (.letI (.cmp .eql (.v 0) (.c 20)) (.ite (.v 10) (.done [.c (2)] []) (.letI (.cmp .eql (.v 0) (.c 21)) (.ite (.v 11) (.done [.c (3)] []) (.letI (.cmp .eql (.v 0) (.c 23)) (.ite (.v 12) (.done [.c (3)] []) (.letI (.cmp .eql (.v 0) (.c 22)) (.ite (.v 13) (.done [.c (4)] []) (.done [.c (0)] []))))))))))))))))))))))))))
theorem wArgs_tree : (L2.args_ L2.f_word_Args).exe Tryz.prog (L2.cfg Tryz.prog) [] 20 200 = wArgs_t := by kernel_rfl
theorem wArgs_vc (Q : List Int → List (List Int) → Prop) (v0 : Int) : wArgs_t.dn ⟨Q, []⟩ 1 [v0] 0 [] = (((v0 = (1 : Int)) → Q [(1 : Int)] []) ∧
((v0 ≠ (1 : Int)) → ((v0 = (4 : Int)) → Q [(1 : Int)] []) ∧
((v0 ≠ (4 : Int)) → ((v0 = (5 : Int)) → Q [(1 : Int)] []) ∧
((v0 ≠ (5 : Int)) → ((v0 = (2 : Int)) → Q [(3 : Int)] []) ∧
((v0 ≠ (2 : Int)) → ((v0 = (3 : Int)) → Q [(4 : Int)] []) ∧
((v0 ≠ (3 : Int)) → ((v0 = (6 : Int)) → Q [(3 : Int)] []) ∧
((v0 ≠ (6 : Int)) → ((v0 = (7 : Int)) → Q [(1 : Int)] []) ∧
((v0 ≠ (7 : Int)) → ((v0 = (8 : Int)) → Q [(2 : Int)] []) ∧
((v0 ≠ (8 : Int)) → ((v0 = (9 : Int)) → Q [(4 : Int)] []) ∧
((v0 ≠ (9 : Int)) → ((v0 = (20 : Int)) → Q [(2 : Int)] []) ∧
((v0 ≠ (20 : Int)) → ((v0 = (21 : Int)) → Q [(3 : Int)] []) ∧
((v0 ≠ (21 : Int)) → ((v0 = (23 : Int)) → Q [(3 : Int)] []) ∧
((v0 ≠ (23 : Int)) → ((v0 = (22 : Int)) → Q [(4 : Int)] []) ∧
((v0 ≠ (22 : Int)) → Q [(0 : Int)] [])))))))))))))) := by kernel_rfl
set_option maxHeartbeats 4000000 in
theorem wArgs_holds : (L2.args_ L2.f_word_Args).Holds Tryz.prog L2.ro := FSpec.holdsV (cfg := L2.cfg Tryz.prog) [] 20 200 cfg_ok mixed (t := wArgs_t) wArgs_tree (by
  show ∀ (v0 : Int) , _
  intro v0  hp hr hl
  replace hr : (((-9223372036854775808) : Int) ≤ v0 ∧ v0 ≤ ((9223372036854775807) : Int)) ∧ True := hr
  replace hl : True := hl
  show wArgs_t.dn ⟨_, []⟩ 1 [v0] 0 []
  rw [wArgs_vc]
  repeat' first | refine And.intro ?_ ?_ | intro _
  all_goals first | omega | skip
  all_goals
    show [_] = [nargs v0]
    grind [nargs])
end Go.Proofs.YtbpilohnhhbbpaaGreatDoor
