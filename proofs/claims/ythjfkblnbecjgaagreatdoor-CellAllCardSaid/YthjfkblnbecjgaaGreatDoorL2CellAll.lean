/- The statement messuagelaw2.CellAll of the seat: for every input the law returns true; the condition: errors.errorType is as the program lays it. -/
import Derived.Test.YthjfkblnbecjgaaGreatDoorL2B
import Derived.Test.YthjfkblnbecjgaaGreatDoorSxDn
set_option linter.unusedVariables false
open Go Go.Sx
namespace Go.Proofs.YthjfkblnbecjgaaGreatDoor
open Go.ChangeShapes Go.WideShapes Go.RowKit
set_option maxRecDepth 100000

noncomputable def CellAll_t : Tree := .call 25 (L2.yes L2.f_messuagelaw2_begun).rel [] [] 0 0 (.loop [.c (0), .v 0, .v 0, .c (0)] [] (.letI (.cmp .lss (.v 4) (.v 1)) (.ite (.v 8) (.letI (.cmp .lss (.v 4) (.c 50)) (.ite (.v 9) (.need .lss (.v 4) (.v 1) (.letI (.mul (.v 4) (.c 3)) (.need .lss (.v 10) (.v 3) (.letI (.get 0 (.v 10)) (.letI (.add (.v 10) (.c 1)) (.need .lss (.v 12) (.v 3) (.letI (.get 0 (.v 12)) (.letI (.add (.v 10) (.c 2)) (.need .lss (.v 14) (.v 3) (.letI (.get 0 (.v 14)) (.letI (.cmp .eql (.v 11) (.c 0)) (.ite (.v 16) (.letI (.add (.v 7) (.c 1)) (.letI (.cmp .eql (.v 5) (.v 6)) (.letI (.not (.v 18)) (.ite (.v 19) (.exit (.fail 180)) (.letI (.add (.v 4) (.c 1)) (.letI (.cmp .neq (.v 17) (.v 20)) (.ite (.v 21) (.exit (.fail 180)) (.again [.v 20, .v 5, .v 6, .v 17] [])))))))) (.letI (.cmp .eql (.v 11) (.c 1)) (.ite (.v 17) (.letI (.add (.v 7) (.c 1)) (.letI (.add (.v 4) (.c 1)) (.letI (.cmp .neq (.v 18) (.v 19)) (.ite (.v 20) (.exit (.fail 180)) (.again [.v 19, .v 13, .v 13, .v 18] []))))) (.letI (.cmp .eql (.v 11) (.c 2)) (.ite (.v 18) (.letI (.cmp .eql (.v 5) (.v 13)) (.letI (.add (.v 7) (.c 1)) (.letI (.cmp .neq (.v 6) (.v 13)) (.ite (.v 21) (.letI (.not (.v 19)) (.letI (.cmp .eql (.v 22) (.c 1)) (.ite (.v 19) (.letI (.not (.v 23)) (.ite (.v 24) (.exit (.fail 180)) (.letI (.add (.v 4) (.c 1)) (.letI (.cmp .neq (.v 20) (.v 25)) (.ite (.v 26) (.exit (.fail 180)) (.again [.v 25, .v 15, .v 6, .v 20] [])))))) (.letI (.not (.v 23)) (.ite (.v 24) (.exit (.fail 180)) (.letI (.add (.v 4) (.c 1)) (.letI (.cmp .neq (.v 20) (.v 25)) (.ite (.v 26) (.exit (.fail 180)) (.again [.v 25, .v 5, .v 6, .v 20] []))))))))) (.letI (.not (.v 19)) (.letI (.cmp .eql (.v 22) (.c 0)) (.ite (.v 19) (.letI (.not (.v 23)) (.ite (.v 24) (.exit (.fail 180)) (.letI (.add (.v 4) (.c 1)) (.letI (.cmp .neq (.v 20) (.v 25)) (.ite (.v 26) (.exit (.fail 180)) (.again [.v 25, .v 15, .v 15, .v 20] [])))))) (.letI (.not (.v 23)) (.ite (.v 24) (.exit (.fail 180)) (.letI (.add (.v 4) (.c 1)) (.letI (.cmp .neq (.v 20) (.v 25)) (.ite (.v 26) (.exit (.fail 180)) (.again [.v 25, .v 5, .v 15, .v 20] []))))))))))))) (.letI (.cmp .eql (.v 11) (.c 3)) (.ite (.v 19) (.letI (.add (.v 7) (.c 1)) (.letI (.cmp .geq (.v 6) (.v 13)) (.ite (.v 21) (.letI (.cmp .lss (.v 5) (.v 13)) (.letI (.not (.v 22)) (.letI (.cmp .eql (.v 23) (.c 1)) (.ite (.v 22) (.letI (.add (.v 5) (.c 1)) (.ite (.v 24) (.letI (.cmp .eql (.v 6) (.v 25)) (.letI (.not (.v 26)) (.ite (.v 27) (.exit (.fail 180)) (.letI (.add (.v 4) (.c 1)) (.letI (.cmp .neq (.v 20) (.v 28)) (.ite (.v 29) (.exit (.fail 180)) (.again [.v 28, .v 25, .v 6, .v 20] []))))))) (.exit (.fail 180)))) (.ite (.v 24) (.letI (.cmp .eql (.v 5) (.v 6)) (.letI (.not (.v 25)) (.ite (.v 26) (.exit (.fail 180)) (.letI (.add (.v 4) (.c 1)) (.letI (.cmp .neq (.v 20) (.v 27)) (.ite (.v 28) (.exit (.fail 180)) (.again [.v 27, .v 5, .v 6, .v 20] []))))))) (.exit (.fail 180))))))) (.letI (.add (.v 6) (.c 1)) (.letI (.cmp .lss (.v 5) (.v 13)) (.letI (.not (.v 23)) (.letI (.cmp .eql (.v 24) (.c 0)) (.ite (.v 23) (.letI (.add (.v 5) (.c 1)) (.ite (.v 25) (.letI (.cmp .eql (.v 22) (.v 26)) (.letI (.not (.v 27)) (.ite (.v 28) (.exit (.fail 180)) (.letI (.add (.v 4) (.c 1)) (.letI (.cmp .neq (.v 20) (.v 29)) (.ite (.v 30) (.exit (.fail 180)) (.again [.v 29, .v 26, .v 22, .v 20] []))))))) (.exit (.fail 180)))) (.ite (.v 25) (.letI (.cmp .eql (.v 5) (.v 22)) (.letI (.not (.v 26)) (.ite (.v 27) (.exit (.fail 180)) (.letI (.add (.v 4) (.c 1)) (.letI (.cmp .neq (.v 20) (.v 28)) (.ite (.v 29) (.exit (.fail 180)) (.again [.v 28, .v 5, .v 22, .v 20] []))))))) (.exit (.fail 180))))))))))) (.letI (.add (.v 7) (.c 1)) (.letI (.cmp .eql (.v 6) (.c 0)) (.ite (.v 21) (.letI (.cmp .gtr (.v 5) (.c 0)) (.letI (.not (.v 22)) (.letI (.cmp .eql (.v 23) (.c 1)) (.letI (.mx (.v 5) (.c 1)) (.letI (.sub (.v 25) (.c 1)) (.ite (.v 24) (.letI (.cmp .eql (.v 26) (.c 0)) (.letI (.not (.v 27)) (.ite (.v 28) (.exit (.fail 180)) (.letI (.add (.v 4) (.c 1)) (.letI (.cmp .neq (.v 20) (.v 29)) (.ite (.v 30) (.exit (.fail 180)) (.again [.v 29, .v 26, .v 6, .v 20] []))))))) (.exit (.fail 180)))))))) (.letI (.sub (.v 6) (.c 1)) (.letI (.cmp .gtr (.v 5) (.c 0)) (.letI (.not (.v 23)) (.letI (.cmp .eql (.v 24) (.c 0)) (.letI (.mx (.v 5) (.c 1)) (.letI (.sub (.v 26) (.c 1)) (.ite (.v 25) (.letI (.cmp .eql (.v 22) (.v 27)) (.letI (.not (.v 28)) (.ite (.v 29) (.exit (.fail 180)) (.letI (.add (.v 4) (.c 1)) (.letI (.cmp .neq (.v 20) (.v 30)) (.ite (.v 31) (.exit (.fail 180)) (.again [.v 30, .v 27, .v 22, .v 20] []))))))) (.exit (.fail 180)))))))))))))))))))))))))))))) (.exit (.done [] [])))) (.exit (.done [] [])))))
theorem CellAll_tree : (lawSpec 21 [.one (.i .u64), .slc L2.ksOp]).exe Tryz.prog (L2.cfg2 Tryz.prog) [{ f := 21, reg := 8, ints := [(7, 0, 50), (0, 0, 18446744073709551615)], cells := [(6, [], 0, 0, 18446744073709551615), (6, [], 1, 0, 50)] }] 20 200 = CellAll_t := by kernel_rfl
theorem CellAll_vc (Q : List Int → List (List Int) → Prop) (v0 v1 v2 v3 : Int) (L0 : List Int) : CellAll_t.dn ⟨Q, []⟩ 4 [v3, v2, v1, v0] 1 [L0] = ((L2.yes L2.f_messuagelaw2_begun).rel.pre [] [] ∧
((L2.yes L2.f_messuagelaw2_begun).rel.post [] [] [] [] → ∃ (I0 : List Int → List (List Int) → Prop) (μ0 : List Int → List (List Int) → Nat), I0 [(0 : Int), v0, v0, (0 : Int)] [] ∧
(∀ v4 : Int, ∀ v5 : Int, ∀ v6 : Int, ∀ v7 : Int, I0 [v4, v5, v6, v7] [] →
 ((v4 < v1) → ((v4 < (50 : Int)) → (v4 < v1) ∧ ∀ v10 : Int, v10 = v4 * (3 : Int) → (v10 < v3) ∧ ∀ v11 : Int, v11 = (L0).getD (v10).toNat 0 → ∀ v12 : Int, v12 = v10 + (1 : Int) → (v12 < v3) ∧ ∀ v13 : Int, v13 = (L0).getD (v12).toNat 0 → ∀ v14 : Int, v14 = v10 + (2 : Int) → (v14 < v3) ∧ ∀ v15 : Int, v15 = (L0).getD (v14).toNat 0 → ((v11 = (0 : Int)) → ∀ v17 : Int, v17 = v7 + (1 : Int) → ∀ v18 : Int, v18 = b2i (v5 == v6) → ∀ v19 : Int, v19 = b2i (v18 == 0) → (v19 ≠ 0 → False) ∧
(v19 = 0 → ∀ v20 : Int, v20 = v4 + (1 : Int) → ((v17 ≠ v20) → False) ∧
((v17 = v20) → (I0 [v20, v5, v6, v17] [] ∧ μ0 [v20, v5, v6, v17] [] < μ0 [v4, v5, v6, v7] [])))) ∧
((v11 ≠ (0 : Int)) → ((v11 = (1 : Int)) → ∀ v18 : Int, v18 = v7 + (1 : Int) → ∀ v19 : Int, v19 = v4 + (1 : Int) → ((v18 ≠ v19) → False) ∧
((v18 = v19) → (I0 [v19, v13, v13, v18] [] ∧ μ0 [v19, v13, v13, v18] [] < μ0 [v4, v5, v6, v7] []))) ∧
((v11 ≠ (1 : Int)) → ((v11 = (2 : Int)) → ∀ v19 : Int, v19 = b2i (v5 == v13) → ∀ v20 : Int, v20 = v7 + (1 : Int) → ((v6 ≠ v13) → ∀ v22 : Int, v22 = b2i (v19 == 0) → ∀ v23 : Int, v23 = b2i (v22 == (1 : Int)) → (v19 ≠ 0 → ∀ v24 : Int, v24 = b2i (v23 == 0) → (v24 ≠ 0 → False) ∧
(v24 = 0 → ∀ v25 : Int, v25 = v4 + (1 : Int) → ((v20 ≠ v25) → False) ∧
((v20 = v25) → (I0 [v25, v15, v6, v20] [] ∧ μ0 [v25, v15, v6, v20] [] < μ0 [v4, v5, v6, v7] [])))) ∧
(v19 = 0 → ∀ v24 : Int, v24 = b2i (v23 == 0) → (v24 ≠ 0 → False) ∧
(v24 = 0 → ∀ v25 : Int, v25 = v4 + (1 : Int) → ((v20 ≠ v25) → False) ∧
((v20 = v25) → (I0 [v25, v5, v6, v20] [] ∧ μ0 [v25, v5, v6, v20] [] < μ0 [v4, v5, v6, v7] []))))) ∧
((v6 = v13) → ∀ v22 : Int, v22 = b2i (v19 == 0) → ∀ v23 : Int, v23 = b2i (v22 == (0 : Int)) → (v19 ≠ 0 → ∀ v24 : Int, v24 = b2i (v23 == 0) → (v24 ≠ 0 → False) ∧
(v24 = 0 → ∀ v25 : Int, v25 = v4 + (1 : Int) → ((v20 ≠ v25) → False) ∧
((v20 = v25) → (I0 [v25, v15, v15, v20] [] ∧ μ0 [v25, v15, v15, v20] [] < μ0 [v4, v5, v6, v7] [])))) ∧
(v19 = 0 → ∀ v24 : Int, v24 = b2i (v23 == 0) → (v24 ≠ 0 → False) ∧
(v24 = 0 → ∀ v25 : Int, v25 = v4 + (1 : Int) → ((v20 ≠ v25) → False) ∧
((v20 = v25) → (I0 [v25, v5, v15, v20] [] ∧ μ0 [v25, v5, v15, v20] [] < μ0 [v4, v5, v6, v7] [])))))) ∧
((v11 ≠ (2 : Int)) → ((v11 = (3 : Int)) → ∀ v20 : Int, v20 = v7 + (1 : Int) → ((v13 ≤ v6) → ∀ v22 : Int, v22 = b2i (decide (v5 < v13)) → ∀ v23 : Int, v23 = b2i (v22 == 0) → ∀ v24 : Int, v24 = b2i (v23 == (1 : Int)) → (v22 ≠ 0 → ∀ v25 : Int, v25 = v5 + (1 : Int) → (v24 ≠ 0 → ∀ v26 : Int, v26 = b2i (v6 == v25) → ∀ v27 : Int, v27 = b2i (v26 == 0) → (v27 ≠ 0 → False) ∧
(v27 = 0 → ∀ v28 : Int, v28 = v4 + (1 : Int) → ((v20 ≠ v28) → False) ∧
((v20 = v28) → (I0 [v28, v25, v6, v20] [] ∧ μ0 [v28, v25, v6, v20] [] < μ0 [v4, v5, v6, v7] [])))) ∧
(v24 = 0 → False)) ∧
(v22 = 0 → (v24 ≠ 0 → ∀ v25 : Int, v25 = b2i (v5 == v6) → ∀ v26 : Int, v26 = b2i (v25 == 0) → (v26 ≠ 0 → False) ∧
(v26 = 0 → ∀ v27 : Int, v27 = v4 + (1 : Int) → ((v20 ≠ v27) → False) ∧
((v20 = v27) → (I0 [v27, v5, v6, v20] [] ∧ μ0 [v27, v5, v6, v20] [] < μ0 [v4, v5, v6, v7] [])))) ∧
(v24 = 0 → False))) ∧
((v6 < v13) → ∀ v22 : Int, v22 = v6 + (1 : Int) → ∀ v23 : Int, v23 = b2i (decide (v5 < v13)) → ∀ v24 : Int, v24 = b2i (v23 == 0) → ∀ v25 : Int, v25 = b2i (v24 == (0 : Int)) → (v23 ≠ 0 → ∀ v26 : Int, v26 = v5 + (1 : Int) → (v25 ≠ 0 → ∀ v27 : Int, v27 = b2i (v22 == v26) → ∀ v28 : Int, v28 = b2i (v27 == 0) → (v28 ≠ 0 → False) ∧
(v28 = 0 → ∀ v29 : Int, v29 = v4 + (1 : Int) → ((v20 ≠ v29) → False) ∧
((v20 = v29) → (I0 [v29, v26, v22, v20] [] ∧ μ0 [v29, v26, v22, v20] [] < μ0 [v4, v5, v6, v7] [])))) ∧
(v25 = 0 → False)) ∧
(v23 = 0 → (v25 ≠ 0 → ∀ v26 : Int, v26 = b2i (v5 == v22) → ∀ v27 : Int, v27 = b2i (v26 == 0) → (v27 ≠ 0 → False) ∧
(v27 = 0 → ∀ v28 : Int, v28 = v4 + (1 : Int) → ((v20 ≠ v28) → False) ∧
((v20 = v28) → (I0 [v28, v5, v22, v20] [] ∧ μ0 [v28, v5, v22, v20] [] < μ0 [v4, v5, v6, v7] [])))) ∧
(v25 = 0 → False)))) ∧
((v11 ≠ (3 : Int)) → ∀ v20 : Int, v20 = v7 + (1 : Int) → ((v6 = (0 : Int)) → ∀ v22 : Int, v22 = b2i (decide (v5 > (0 : Int))) → ∀ v23 : Int, v23 = b2i (v22 == 0) → ∀ v24 : Int, v24 = b2i (v23 == (1 : Int)) → ∀ v25 : Int, v25 = (if (1 : Int) > v5 then (1 : Int) else v5) → ∀ v26 : Int, v26 = v25 - (1 : Int) → (v24 ≠ 0 → ∀ v27 : Int, v27 = b2i (v26 == (0 : Int)) → ∀ v28 : Int, v28 = b2i (v27 == 0) → (v28 ≠ 0 → False) ∧
(v28 = 0 → ∀ v29 : Int, v29 = v4 + (1 : Int) → ((v20 ≠ v29) → False) ∧
((v20 = v29) → (I0 [v29, v26, v6, v20] [] ∧ μ0 [v29, v26, v6, v20] [] < μ0 [v4, v5, v6, v7] [])))) ∧
(v24 = 0 → False)) ∧
((v6 ≠ (0 : Int)) → ∀ v22 : Int, v22 = v6 - (1 : Int) → ∀ v23 : Int, v23 = b2i (decide (v5 > (0 : Int))) → ∀ v24 : Int, v24 = b2i (v23 == 0) → ∀ v25 : Int, v25 = b2i (v24 == (0 : Int)) → ∀ v26 : Int, v26 = (if (1 : Int) > v5 then (1 : Int) else v5) → ∀ v27 : Int, v27 = v26 - (1 : Int) → (v25 ≠ 0 → ∀ v28 : Int, v28 = b2i (v22 == v27) → ∀ v29 : Int, v29 = b2i (v28 == 0) → (v29 ≠ 0 → False) ∧
(v29 = 0 → ∀ v30 : Int, v30 = v4 + (1 : Int) → ((v20 ≠ v30) → False) ∧
((v20 = v30) → (I0 [v30, v27, v22, v20] [] ∧ μ0 [v30, v27, v22, v20] [] < μ0 [v4, v5, v6, v7] [])))) ∧
(v25 = 0 → False))))))) ∧
(((50 : Int) ≤ v4) → Q [] [])) ∧
((v1 ≤ v4) → Q [] [])))) := by kernel_rfl
set_option maxHeartbeats 4000000 in
theorem cellAll_holds : ((lawSpec 21 [.one (.i .u64), .slc L2.ksOp]).withPre fun _ => True).Holds Tryz.prog L2.ro := FSpec.holdsV (cfg := L2.cfg2 Tryz.prog) [{ f := 21, reg := 8, ints := [(7, 0, 50), (0, 0, 18446744073709551615)], cells := [(6, [], 0, 0, 18446744073709551615), (6, [], 1, 0, 50)] }] 20 200 cfg2_ok mixed (t := CellAll_t) (by rw [exe_withPre]; exact CellAll_tree) (by
  show ∀ (v0 v1 v2 v3 : Int) (L0 : List Int), _
  intro v0 v1 v2 v3 L0 hp hr hl
  have hr : ((0 : Int) ≤ v0 ∧ v0 ≤ (18446744073709551615 : Int)) ∧ ((0 : Int) ≤ v1 ∧ v1 ≤ (9223372036854775807 : Int)) ∧ ((0 : Int) ≤ v2 ∧ v2 ≤ (9223372036854775807 : Int)) ∧ ((0 : Int) ≤ v3 ∧ v3 ≤ (9223372036854775807 : Int) * ((3 : Nat) : Int)) ∧ True := hr
  have hp : (True ∧ ((0 : Int) ≤ v1 ∧ v1 ≤ v2 ∧ (L0.length : Int) = v1 * ((3 : Nat) : Int) ∧ ((3 : Nat) ≠ 1 → v3 = v1 * ((3 : Nat) : Int)) ∧ ∀ j, j < L0.length → ((oneKind L2.ksOp).getD (j % (oneKind L2.ksOp).length) (.i .i64)).lo ≤ L0.getD j 0 ∧ L0.getD j 0 ≤ ((oneKind L2.ksOp).getD (j % (oneKind L2.ksOp).length) (.i .i64)).hi)) ∧ True := hp
  show CellAll_t.dn ⟨_, []⟩ 4 [v3, v2, v1, v0] 1 [L0]
  rw [CellAll_vc]
  show ((L2.yes L2.f_messuagelaw2_begun).rel.pre [] [] ∧ _)
  refine ⟨trivial, fun _ => ?_⟩
  refine ⟨fun xs _ => match xs with | [i, v, c, n] => 0 ≤ i ∧ 0 ≤ v ∧ v ≤ 18446744073709551615 ∧ v = c ∧ n = i | _ => False, fun xs _ => (50 - xs.getD 0 0).toNat, ?_, ?_⟩ <;> dsimp only [List.getD_cons_zero]
  · omega
  · intro v4 v5 v6 v7 hI
    have hb : ∀ k : Nat, k < L0.length → k % 3 ≠ 0 → 0 ≤ L0.getD k 0 ∧ L0.getD k 0 ≤ 18446744073709551615 := by
      intro k hk h3
      have := hp.1.2.2.2.2.2 k hk
      have h : k % 3 = 1 ∨ k % 3 = 2 := by omega
      rcases h with h | h <;> simpa [oneKind, h, CK.lo, CK.hi, IntKind.min, IntKind.max, IntKind.bits, IntKind.signed] using this
    simp only [b2i]
    repeat' first | refine And.intro ?_ ?_ | intro _
    all_goals first | trivial | omega | grind)

noncomputable def CellAll_n_t : Tree := .call 25 (L2.yes L2.f_messuagelaw2_begun).rel [] [] 0 0 (.loop [.c (0), .v 0, .v 0, .c (0)] [] (.exit (.done [] [])))
theorem CellAll_n_tree : (lawSpec 21 [.one (.i .u64), .nil]).exe Tryz.prog (L2.cfg2 Tryz.prog) [{ f := 21, reg := 8, ints := [(7, 0, 50), (0, 0, 18446744073709551615)], cells := [(6, [], 0, 0, 18446744073709551615), (6, [], 1, 0, 50)] }] 20 200 = CellAll_n_t := by kernel_rfl
theorem CellAll_n_vc (Q : List Int → List (List Int) → Prop) (v0 : Int) : CellAll_n_t.dn ⟨Q, []⟩ 1 [v0] 0 [] = ((L2.yes L2.f_messuagelaw2_begun).rel.pre [] [] ∧
((L2.yes L2.f_messuagelaw2_begun).rel.post [] [] [] [] → ∃ (I0 : List Int → List (List Int) → Prop) (μ0 : List Int → List (List Int) → Nat), I0 [(0 : Int), v0, v0, (0 : Int)] [] ∧
(∀ v1 : Int, ∀ v2 : Int, ∀ v3 : Int, ∀ v4 : Int, I0 [v1, v2, v3, v4] [] →
 Q [] []))) := by kernel_rfl
set_option maxHeartbeats 4000000 in
theorem cellAll_holds_n : ((lawSpec 21 [.one (.i .u64), .nil]).withPre fun _ => True).Holds Tryz.prog L2.ro := FSpec.holdsV (cfg := L2.cfg2 Tryz.prog) [{ f := 21, reg := 8, ints := [(7, 0, 50), (0, 0, 18446744073709551615)], cells := [(6, [], 0, 0, 18446744073709551615), (6, [], 1, 0, 50)] }] 20 200 cfg2_ok mixed (t := CellAll_n_t) (by rw [exe_withPre]; exact CellAll_n_tree) (by
  show ∀ (v0 : Int) , _
  intro v0  hp hr hl
  have hr : ((0 : Int) ≤ v0 ∧ v0 ≤ (18446744073709551615 : Int)) ∧ True := hr
  have hp : True ∧ True := hp
  show CellAll_n_t.dn ⟨_, []⟩ 1 [v0] 0 []
  rw [CellAll_n_vc]
  show ((L2.yes L2.f_messuagelaw2_begun).rel.pre [] [] ∧ _)
  refine ⟨trivial, fun _ => ?_⟩
  exact ⟨fun _ _ => True, fun _ _ => 0, trivial, fun _ _ _ _ _ => trivial⟩)

theorem cellAll_calls {H : Type} {enc : TypeId × Value → H} {W : World} {base : Nat} {args : Array Value} {ds : List (DataW H)} {p : List MemPlace} (hval : ∀ (j : Nat) t v, Tryz.f21.params[j]? = some t → args[j]? = some v → Value.okWide Tryz.prog W .any base t v)
    (hA : DataW.TrodAll enc Tryz.prog W 0 (fun _ => true) true Tryz.f21.params.toList args.toList ds p) (hL : laidMetH Tryz.prog laid1 W) : Calls Tryz.prog 21 args W fun e W' => e = .returned (.bool true) ∧ Go.Sx.Frame ⟨W, [], L2.ro⟩ W' := by
  rw [Tryz.params21] at hA hval
  obtain ⟨v0, v1, d0, d1, p0, p1, rfl, rfl, rfl, h0, h1⟩ := trodAll_two hA
  obtain ⟨n0, q0⟩ := par_int (base := 0) und24 (hval 0 24 v0 rfl rfl) h0
  rcases par_flats (base := 0) (f := 9) und99 flat101 cells101 (by decide) (hval 1 99 v1 rfl rfl) h1 with q1 | ⟨e1, q1⟩
  · exact law_calls (cellAll_holds_n) Tryz.func21 (show Tryz.f21.body = some _ from rfl) (by kernel_rfl) (.cons q0 (.cons q1 .none)) trivial (ro_of_laid hL)
  · exact law_calls (cellAll_holds) Tryz.func21 (show Tryz.f21.body = some _ from rfl) (by kernel_rfl) (.cons q0 (.cons q1 .none)) trivial (ro_of_laid hL)
set_option maxHeartbeats 1000000 in
theorem cellAll_lifted (os : Os) (started : os.Started) (H : Type) (enc : TypeId × Value → H) :
    ReturnsInHanded {} Tryz.checked os 21 .any (fun w args => (Rows.cellAllSpec.pre enc Tryz.prog Tryz.f21 [] false w args ∧ laidMetH Tryz.prog laid1 w) ∧ sizedMet enc Tryz.prog Tryz.f21 (OpenSpec.ofChange Rows.cellAllSpec) false w args)
      (Rows.cellAllSpec.post enc Tryz.prog Tryz.f21 false true false false) := by
  refine returnsInHanded_of_change_and (C := Tryz.checked) (X := fun w _ => laidMetH Tryz.prog laid1 w) (fun _ _ _ hh h => h.of_heap hh) Tryz.own started (by kernel_rfl) Tryz.func21
    (ChangeSpec.witness_at (enc := enc) (C := Tryz.checked) (os := os) (X := fun w _ => laidMetH Tryz.prog laid1 w) false (laidWorld os) #[.int .u64 0, .slice none 0 0] 8 rfl (by kernel_rfl) (by kernel_rfl) (by kernel_rfl) (by kernel_rfl) (by kernel_rfl) (laidWorld_met os _)) ?_
  intro W base args ds gs before hval0 hW _ _ hL _
  have hval : ∀ (j : Nat) t v, Tryz.f21.params[j]? = some t → args[j]? = some v → Value.okWide Tryz.prog W .any base t v := hval0
  have hW' := hW
  obtain ⟨p, q, hA0, hV0, rfl, hfz, hnd⟩ := hW
  have hcall := cellAll_calls (enc := enc) hval hA0 hL
  refine Calls.mono hcall ?_
  rintro e W' ⟨rfl, hfr⟩
  exact ⟨_, rfl, post_kept Tryz.laidOut (by kernel_rfl) rfl rfl und4 hW' hfr (by
    have hg : gs = [] := by cases gs with | nil => rfl | cons g r => exact absurd hV0 (by intro h; cases h)
    subst hg
    have hA1 : DataW.TrodAll enc Tryz.prog W 0 (fun _ => true) true Tryz.f21.params.toList args.toList ds p := hA0
    rw [Tryz.params21] at hA1
    obtain ⟨v0, v1, d0, d1, p0, p1, ea, rfl, ec, h0, h1⟩ := trodAll_two hA1
    rfl)⟩

theorem cellAll_row : Rows.CellAllSaid :=
  OpenClaim.holds_of_wide 21 Tryz.f21 rfl rfl rfl rfl rfl rfl rfl ⟨rfl, rfl, rfl, rfl, rfl⟩ rfl rfl rfl rfl rfl (by kernel_rfl) Tryz.func21 (restFacts.2 _ _ _ _ _ Tryz.mayEnter Tryz.liftsFinal Tryz.make (by kernel_rfl))
    (of_decide_eq_true (by kernel_rfl)) (by unfold Func.isWrapper; rw [if_neg (of_decide_eq_false (by kernel_rfl))]; exact ⟨rfl, rfl⟩)
    (fun os started H enc _ => cellAll_lifted os started H enc)
theorem cellAll_card : Rows.CellAllCardSaid :=
  Claim7.holds_tied_plain_at .later [] [.handle] true (true, "8c0441bbc8609432f713c1c89f5af20e6af72254f1482b9eed96a33066278ab6") true
    cellAll_row (fun _ h => by cases h) (by kernel_rfl) (fun _ h => by cases h) cellAll_row_tie rfl ⟨rfl, rfl⟩ Tryz.mainIs rfl
    (fun f fn hf hfn => by
      obtain rfl : f = 21 := Option.some.inj ((show Tryz.prog.funcNamed "messuage/messuagelaw2.CellAll" = some 21 by kernel_rfl).symm.trans hf) |>.symm
      obtain rfl : fn = Tryz.f21 := (Option.some.inj (Tryz.func21.symm.trans hfn)).symm
      exact ⟨by kernel_rfl, fun j t ht => by
        rw [Tryz.params21] at ht
        rcases j with _ | _ | j
        · obtain rfl : 24 = t := by simpa using ht
          exact (show Tryz.prog.wantsStandIn 24 = false by kernel_rfl)
        · obtain rfl : 99 = t := by simpa using ht
          exact (show Tryz.prog.wantsStandIn 99 = false by kernel_rfl)
        · simp at ht⟩)
    (by kernel_rfl)
#print axioms cellAll_card
end Go.Proofs.YthjfkblnbecjgaaGreatDoor
