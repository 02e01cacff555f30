/- Contract: a load, a store in a frame. -/
import Derived.Test.YtegeplgckfpleaaGreatDoorL2Facts
import Derived.Test.YtegeplgckfpleaaGreatDoorSxM7
import Derived.Test.YtegeplgckfpleaaGreatDoorL2V
set_option linter.unusedVariables false
set_option linter.unusedSimpArgs false
open Go Go.Sx
namespace Go.Proofs.YtegeplgckfpleaaGreatDoor
set_option maxRecDepth 100000
noncomputable def uTouch3_t : Tree := .letI (.wr .i64 (.v 4)) (.letI (.wr .i64 (.v 2)) (.letI (.cmp .eql (.v 8) (.c 20)) (.ite (.v 9) (.letI (.cmp .lss (.v 1) (.c 0)) (.ite (.v 10) (.done [.c (0)] [0, 1, 2]) (.letI (.cmp .leq (.c 3) (.v 1)) (.ite (.v 11) (.done [.c (0)] [0, 1, 2]) (.letI (.cmp .lss (.v 7) (.c 0)) (.ite (.v 12) (.done [.c (0)] [0, 1, 2]) (.letI (.cmp .leq (.c 16) (.v 7)) (.ite (.v 13) (.done [.c (0)] [0, 1, 2]) (.letI (.cmp .eql (.v 1) (.c 0)) (.ite (.v 14) (.letI (.get 0 (.v 7)) (.done [.v 15] [0, 1, 2])) (.letI (.cmp .eql (.v 1) (.c 1)) (.ite (.v 15) (.letI (.get 1 (.v 7)) (.done [.v 16] [0, 1, 2])) (.letI (.get 2 (.v 7)) (.done [.v 16] [0, 1, 2])))))))))))))) (.letI (.cmp .eql (.v 8) (.c 21)) (.ite (.v 10) (.letI (.cmp .lss (.v 1) (.c 0)) (.ite (.v 11) (.done [.c (0)] [0, 1, 2]) (.letI (.cmp .leq (.c 3) (.v 1)) (.ite (.v 12) (.done [.c (0)] [0, 1, 2]) (.letI (.cmp .lss (.v 7) (.c 0)) (.ite (.v 13) (.done [.c (0)] [0, 1, 2]) (.letI (.cmp .leq (.c 16) (.v 7)) (.ite (.v 14) (.done [.c (0)] [0, 1, 2]) (.letI (.cmp .eql (.v 1) (.c 0)) (.ite (.v 15) (.letL (.set 0 (.v 7) (.v 5)) (.done [.c (0)] [3, 1, 2])) (.letI (.cmp .eql (.v 1) (.c 1)) (.ite (.v 16) (.letL (.set 1 (.v 7) (.v 5)) (.done [.c (0)] [0, 3, 2])) (.letL (.set 2 (.v 7) (.v 5)) (.done [.c (0)] [0, 1, 3])))))))))))))) (.letI (.cmp .eql (.v 8) (.c 22)) (.ite (.v 11) (.letI (.cmp .lss (.v 1) (.c 0)) (.ite (.v 12) (.done [.c (0)] [0, 1, 2]) (.letI (.cmp .leq (.c 3) (.v 1)) (.ite (.v 13) (.done [.c (0)] [0, 1, 2]) (.letI (.cmp .lss (.v 7) (.c 0)) (.ite (.v 14) (.done [.c (0)] [0, 1, 2]) (.letI (.cmp .leq (.c 16) (.v 7)) (.ite (.v 15) (.done [.c (0)] [0, 1, 2]) (.letI (.cmp .eql (.v 1) (.c 0)) (.ite (.v 16) (.letI (.get 0 (.v 7)) (.letI (.cmp .eql (.v 5) (.v 17)) (.ite (.v 18) (.letL (.set 0 (.v 7) (.v 6)) (.done [.v 17] [3, 1, 2])) (.done [.v 17] [0, 1, 2])))) (.letI (.cmp .eql (.v 1) (.c 1)) (.ite (.v 17) (.letI (.get 1 (.v 7)) (.letI (.cmp .eql (.v 5) (.v 18)) (.ite (.v 19) (.letL (.set 1 (.v 7) (.v 6)) (.done [.v 18] [0, 3, 2])) (.done [.v 18] [0, 1, 2])))) (.letI (.get 2 (.v 7)) (.letI (.cmp .eql (.v 5) (.v 18)) (.ite (.v 19) (.letL (.set 2 (.v 7) (.v 6)) (.done [.v 18] [0, 1, 3])) (.done [.v 18] [0, 1, 2])))))))))))))))) (.letI (.cmp .eql (.v 8) (.c 23)) (.ite (.v 12) (.letI (.cmp .lss (.v 1) (.c 0)) (.ite (.v 13) (.done [.c (0)] [0, 1, 2]) (.letI (.cmp .leq (.c 3) (.v 1)) (.ite (.v 14) (.done [.c (0)] [0, 1, 2]) (.letI (.cmp .lss (.v 7) (.c 0)) (.ite (.v 15) (.done [.c (0)] [0, 1, 2]) (.letI (.cmp .leq (.c 16) (.v 7)) (.ite (.v 16) (.done [.c (0)] [0, 1, 2]) (.letI (.cmp .eql (.v 1) (.c 0)) (.ite (.v 17) (.letI (.get 0 (.v 7)) (.letI (.add (.v 18) (.v 5)) (.letI (.wr .u64 (.v 19)) (.letL (.set 0 (.v 7) (.v 20)) (.done [.v 18] [3, 1, 2]))))) (.letI (.cmp .eql (.v 1) (.c 1)) (.ite (.v 18) (.letI (.get 1 (.v 7)) (.letI (.add (.v 19) (.v 5)) (.letI (.wr .u64 (.v 20)) (.letL (.set 1 (.v 7) (.v 21)) (.done [.v 19] [0, 3, 2]))))) (.letI (.get 2 (.v 7)) (.letI (.add (.v 19) (.v 5)) (.letI (.wr .u64 (.v 20)) (.letL (.set 2 (.v 7) (.v 21)) (.done [.v 19] [0, 1, 3]))))))))))))))))) (.done [.c (0)] [0, 1, 2]))))))))))
theorem uTouch3_tree : (L2.uTouch 3).exe Tryz.prog (L2.cfg Tryz.prog) [] 20 200 = uTouch3_t := by kernel_rfl
theorem uTouch3_vc (Q : List Int → List (List Int) → Prop) (v0 v1 v2 v3 v4 v5 v6 : Int) (L0 L1 L2 : List Int) : uTouch3_t.dn ⟨Q, []⟩ 7 [v6, v5, v4, v3, v2, v1, v0] 3 [L2, L1, L0] = (∀ v7 : Int, v7 = IntKind.wrap .i64 v4 → ∀ v8 : Int, v8 = IntKind.wrap .i64 v2 → ((v8 = (20 : Int)) → ((v1 < (0 : Int)) → Q [(0 : Int)] [L0, L1, L2]) ∧
(((0 : Int) ≤ v1) → (((3 : Int) ≤ v1) → Q [(0 : Int)] [L0, L1, L2]) ∧
((v1 < (3 : Int)) → ((v7 < (0 : Int)) → Q [(0 : Int)] [L0, L1, L2]) ∧
(((0 : Int) ≤ v7) → (((16 : Int) ≤ v7) → Q [(0 : Int)] [L0, L1, L2]) ∧
((v7 < (16 : Int)) → ((v1 = (0 : Int)) → ∀ v15 : Int, v15 = (L0).getD (v7).toNat 0 → Q [v15] [L0, L1, L2]) ∧
((v1 ≠ (0 : Int)) → ((v1 = (1 : Int)) → ∀ v16 : Int, v16 = (L1).getD (v7).toNat 0 → Q [v16] [L0, L1, L2]) ∧
((v1 ≠ (1 : Int)) → ∀ v16 : Int, v16 = (L2).getD (v7).toNat 0 → Q [v16] [L0, L1, L2]))))))) ∧
((v8 ≠ (20 : Int)) → ((v8 = (21 : Int)) → ((v1 < (0 : Int)) → Q [(0 : Int)] [L0, L1, L2]) ∧
(((0 : Int) ≤ v1) → (((3 : Int) ≤ v1) → Q [(0 : Int)] [L0, L1, L2]) ∧
((v1 < (3 : Int)) → ((v7 < (0 : Int)) → Q [(0 : Int)] [L0, L1, L2]) ∧
(((0 : Int) ≤ v7) → (((16 : Int) ≤ v7) → Q [(0 : Int)] [L0, L1, L2]) ∧
((v7 < (16 : Int)) → ((v1 = (0 : Int)) → ∀ L3 : List Int, L3 = (L0).set (v7).toNat v5 → Q [(0 : Int)] [L3, L1, L2]) ∧
((v1 ≠ (0 : Int)) → ((v1 = (1 : Int)) → ∀ L3 : List Int, L3 = (L1).set (v7).toNat v5 → Q [(0 : Int)] [L0, L3, L2]) ∧
((v1 ≠ (1 : Int)) → ∀ L3 : List Int, L3 = (L2).set (v7).toNat v5 → Q [(0 : Int)] [L0, L1, L3]))))))) ∧
((v8 ≠ (21 : Int)) → ((v8 = (22 : Int)) → ((v1 < (0 : Int)) → Q [(0 : Int)] [L0, L1, L2]) ∧
(((0 : Int) ≤ v1) → (((3 : Int) ≤ v1) → Q [(0 : Int)] [L0, L1, L2]) ∧
((v1 < (3 : Int)) → ((v7 < (0 : Int)) → Q [(0 : Int)] [L0, L1, L2]) ∧
(((0 : Int) ≤ v7) → (((16 : Int) ≤ v7) → Q [(0 : Int)] [L0, L1, L2]) ∧
((v7 < (16 : Int)) → ((v1 = (0 : Int)) → ∀ v17 : Int, v17 = (L0).getD (v7).toNat 0 → ((v5 = v17) → ∀ L3 : List Int, L3 = (L0).set (v7).toNat v6 → Q [v17] [L3, L1, L2]) ∧
((v5 ≠ v17) → Q [v17] [L0, L1, L2])) ∧
((v1 ≠ (0 : Int)) → ((v1 = (1 : Int)) → ∀ v18 : Int, v18 = (L1).getD (v7).toNat 0 → ((v5 = v18) → ∀ L3 : List Int, L3 = (L1).set (v7).toNat v6 → Q [v18] [L0, L3, L2]) ∧
((v5 ≠ v18) → Q [v18] [L0, L1, L2])) ∧
((v1 ≠ (1 : Int)) → ∀ v18 : Int, v18 = (L2).getD (v7).toNat 0 → ((v5 = v18) → ∀ L3 : List Int, L3 = (L2).set (v7).toNat v6 → Q [v18] [L0, L1, L3]) ∧
((v5 ≠ v18) → Q [v18] [L0, L1, L2])))))))) ∧
((v8 ≠ (22 : Int)) → ((v8 = (23 : Int)) → ((v1 < (0 : Int)) → Q [(0 : Int)] [L0, L1, L2]) ∧
(((0 : Int) ≤ v1) → (((3 : Int) ≤ v1) → Q [(0 : Int)] [L0, L1, L2]) ∧
((v1 < (3 : Int)) → ((v7 < (0 : Int)) → Q [(0 : Int)] [L0, L1, L2]) ∧
(((0 : Int) ≤ v7) → (((16 : Int) ≤ v7) → Q [(0 : Int)] [L0, L1, L2]) ∧
((v7 < (16 : Int)) → ((v1 = (0 : Int)) → ∀ v18 : Int, v18 = (L0).getD (v7).toNat 0 → ∀ v19 : Int, v19 = v18 + v5 → ∀ v20 : Int, v20 = IntKind.wrap .u64 v19 → ∀ L3 : List Int, L3 = (L0).set (v7).toNat v20 → Q [v18] [L3, L1, L2]) ∧
((v1 ≠ (0 : Int)) → ((v1 = (1 : Int)) → ∀ v19 : Int, v19 = (L1).getD (v7).toNat 0 → ∀ v20 : Int, v20 = v19 + v5 → ∀ v21 : Int, v21 = IntKind.wrap .u64 v20 → ∀ L3 : List Int, L3 = (L1).set (v7).toNat v21 → Q [v19] [L0, L3, L2]) ∧
((v1 ≠ (1 : Int)) → ∀ v19 : Int, v19 = (L2).getD (v7).toNat 0 → ∀ v20 : Int, v20 = v19 + v5 → ∀ v21 : Int, v21 = IntKind.wrap .u64 v20 → ∀ L3 : List Int, L3 = (L2).set (v7).toNat v21 → Q [v19] [L0, L1, L3]))))))) ∧
((v8 ≠ (23 : Int)) → Q [(0 : Int)] [L0, L1, L2]))))) := by kernel_rfl
set_option maxHeartbeats 4000000 in
theorem uTouch3_holds : (L2.uTouch 3).Holds Tryz.prog L2.ro := FSpec.holdsV (cfg := L2.cfg Tryz.prog) [] 20 200 cfg_ok mixed (t := uTouch3_t) uTouch3_tree (by
  show ∀ (v0 v1 v2 v3 v4 v5 v6 : Int) (L0 L1 L2 : List Int), _
  intro v0 v1 v2 v3 v4 v5 v6 L0 L1 L2 hp hr hl
  replace hr : (((3) : Int) ≤ v0 ∧ v0 ≤ ((9223372036854775807) : Int)) ∧ (((-9223372036854775808) : Int) ≤ v1 ∧ v1 ≤ ((9223372036854775807) : Int)) ∧ (((0) : Int) ≤ v2 ∧ v2 ≤ ((18446744073709551615) : Int)) ∧ (((0) : Int) ≤ v3 ∧ v3 ≤ ((18446744073709551615) : Int)) ∧ (((0) : Int) ≤ v4 ∧ v4 ≤ ((18446744073709551615) : Int)) ∧ (((0) : Int) ≤ v5 ∧ v5 ≤ ((18446744073709551615) : Int)) ∧ (((0) : Int) ≤ v6 ∧ v6 ≤ ((18446744073709551615) : Int)) ∧ True := hr
  replace hl : (∀ x ∈ L0, (((0) : Int) ≤ x ∧ x ≤ ((18446744073709551615) : Int))) ∧ (∀ x ∈ L1, (((0) : Int) ≤ x ∧ x ≤ ((18446744073709551615) : Int))) ∧ (∀ x ∈ L2, (((0) : Int) ≤ x ∧ x ≤ ((18446744073709551615) : Int))) ∧ True := hl
  show uTouch3_t.dn ⟨_, []⟩ 7 [v6, v5, v4, v3, v2, v1, v0] 3 [L2, L1, L0]
  rw [uTouch3_vc]
  have hp4 : v4 < 16 := hp.1
  have hlen := hp.2
  have n0 : L0.length = 16 := hlen 0 (by decide)
  have n1 : L1.length = 16 := hlen 1 (by decide)
  have n2 : L2.length = 16 := hlen 2 (by decide)
  clear hlen hp hl
  have a0 : ([L0, L1, L2] : List (List Int)).getD 0 [] = L0 := rfl
  have b0 : ([L0, L1, L2] : List (List Int)).getD (0 : Int).toNat [] = L0 := rfl
  have a1 : ([L0, L1, L2] : List (List Int)).getD 1 [] = L1 := rfl
  have b1 : ([L0, L1, L2] : List (List Int)).getD (1 : Int).toNat [] = L1 := rfl
  have a2 : ([L0, L1, L2] : List (List Int)).getD 2 [] = L2 := rfl
  have b2 : ([L0, L1, L2] : List (List Int)).getD (2 : Int).toNat [] = L2 := rfl
  have w7 : IntKind.wrap .i64 v4 = v4 := by rw [wrapI]; omega
  have w8 : ∀ k : Int, 20 ≤ k → k ≤ 23 → (IntKind.wrap .i64 v2 = k ↔ v2 = k) := by intro k h1 h2; rw [wrapI]; omega
  have w20 := w8 20 (by omega) (by omega)
  have w21 := w8 21 (by omega) (by omega)
  have w22 := w8 22 (by omega) (by omega)
  have w23 := w8 23 (by omega) (by omega)
  clear w8
  simp only [fnSpec_post, fnSpec_pre, true_and, List.cons.injEq, and_true, List.getD_cons_zero, List.getD_cons_succ, and_imp, forall_eq, b2i_zero, b2i_eq, ne_eq, Bool.not_eq_false, Bool.not_eq_true', Bool.not_eq_false', decide_eq_true_eq, decide_eq_false_iff_not, Int.not_lt, Int.not_le, range3, w7, w20, w21, w22, w23]
  repeat' first | refine And.intro ?_ ?_ | intro _
  all_goals first | omega | skip
  all_goals grind [touchV, touchL, wordM, inM])
end Go.Proofs.YtegeplgckfpleaaGreatDoor
