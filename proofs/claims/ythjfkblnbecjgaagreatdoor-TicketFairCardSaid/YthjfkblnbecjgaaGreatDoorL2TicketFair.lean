/- The statement messuagelaw2.TicketFair of the seat: for every input the law returns true; the condition: errors.errorType is as the program lays it. -/
import Derived.Test.YthjfkblnbecjgaaGreatDoorL2B
import Derived.Test.YthjfkblnbecjgaaGreatDoorSxDn
set_option linter.unusedVariables false
open Go Go.Sx
namespace Go.Proofs.YthjfkblnbecjgaaGreatDoor
open Go.ChangeShapes Go.WideShapes Go.RowKit
set_option maxRecDepth 100000

noncomputable def TicketFair_t : Tree := .call 25 (L2.yes L2.f_messuagelaw2_begun).rel [] [] 0 0 (.letI (.rem (.v 0) (.c 12)) (.letI (.add (.v 3) (.c 12)) (.letI (.rem (.v 4) (.c 12)) (.letI (.add (.c 1) (.v 5)) (.loop [.c (0), .c (0), .c (0)] [] (.letI (.cmp .lss (.v 7) (.v 6)) (.ite (.v 10) (.letI (.add (.v 9) (.c 1)) (.letI (.wr .i64 (.v 11)) (.letI (.add (.v 8) (.c 1)) (.letI (.sub (.v 13) (.c 1)) (.letI (.add (.v 7) (.c 1)) (.need .leq (.v 13) (.c 12) (.again [.v 15, .v 13, .v 12] []))))))) (.exit (.loop [.c (0), .v 9, .c (0), .c (0)] [] (.letI (.cmp .lss (.v 11) (.v 6)) (.ite (.v 15) (.loop [.c (0), .v 12, .v 14] [] (.letI (.cmp .lss (.v 16) (.v 1)) (.ite (.v 19) (.letI (.cmp .lss (.v 16) (.c 10)) (.ite (.v 20) (.need .lss (.v 16) (.v 1) (.need .lss (.v 16) (.v 1) (.letI (.get 0 (.v 16)) (.letI (.rem (.v 21) (.v 6)) (.letI (.add (.v 22) (.v 6)) (.letI (.wr .i64 (.v 23)) (.letI (.rem (.v 24) (.v 6)) (.letI (.wr .u64 (.v 25)) (.letI (.add (.v 18) (.c 1)) (.letI (.wr .i64 (.v 27)) (.letI (.cmp .eql (.v 13) (.v 26)) (.ite (.v 29) (.letI (.add (.v 17) (.c 1)) (.letI (.wr .i64 (.v 30)) (.letI (.cmp .lss (.v 26) (.v 8)) (.letI (.cmp .eql (.v 11) (.v 26)) (.letI (.not (.v 32)) (.letI (.not (.v 33)) (.letI (.cmp .neq (.v 34) (.v 35)) (.ite (.v 36) (.exit (.exit (.fail 180))) (.letI (.cmp .neq (.v 11) (.v 26)) (.ite (.v 37) (.letI (.add (.v 28) (.c 1)) (.letI (.wr .i64 (.v 38)) (.letI (.add (.v 31) (.c 1)) (.letI (.wr .i64 (.v 40)) (.ite (.v 32) (.letI (.add (.v 26) (.c 1)) (.letI (.add (.v 39) (.c 1)) (.letI (.wr .i64 (.v 43)) (.letI (.cmp .neq (.v 13) (.v 26)) (.ite (.v 45) (.letI (.add (.v 16) (.c 1)) (.again [.v 46, .v 41, .v 44] [])) (.exit (.exit (.fail 180)))))))) (.letI (.add (.v 16) (.c 1)) (.again [.v 42, .v 41, .v 39] []))))))) (.letI (.add (.v 16) (.c 1)) (.again [.v 38, .v 31, .v 28] [])))))))))))) (.letI (.cmp .eql (.v 11) (.v 26)) (.letI (.not (.v 30)) (.letI (.cmp .neq (.v 31) (.c 1)) (.ite (.v 32) (.exit (.exit (.fail 180))) (.letI (.cmp .neq (.v 11) (.v 26)) (.ite (.v 33) (.letI (.add (.v 28) (.c 1)) (.letI (.wr .i64 (.v 34)) (.letI (.add (.v 16) (.c 1)) (.again [.v 36, .v 17, .v 35] [])))) (.letI (.add (.v 16) (.c 1)) (.again [.v 34, .v 17, .v 28] [])))))))))))))))))))) (.exit (.letI (.add (.v 18) (.c 1)) (.letI (.wr .i64 (.v 21)) (.letI (.cmp .eql (.v 11) (.v 13)) (.ite (.v 23) (.letI (.add (.v 17) (.c 1)) (.letI (.wr .i64 (.v 24)) (.letI (.cmp .lss (.v 11) (.v 8)) (.ite (.v 26) (.letI (.add (.v 11) (.c 1)) (.letI (.add (.v 22) (.c 1)) (.letI (.wr .i64 (.v 28)) (.letI (.cmp .neq (.v 11) (.v 13)) (.ite (.v 30) (.exit (.fail 180)) (.again [.v 27, .v 25, .v 27, .v 29] [])))))) (.exit (.fail 180)))))) (.exit (.fail 180))))))))) (.exit (.letI (.add (.v 18) (.c 1)) (.letI (.wr .i64 (.v 20)) (.letI (.cmp .eql (.v 11) (.v 13)) (.ite (.v 22) (.letI (.add (.v 17) (.c 1)) (.letI (.wr .i64 (.v 23)) (.letI (.cmp .lss (.v 11) (.v 8)) (.ite (.v 25) (.letI (.add (.v 11) (.c 1)) (.letI (.add (.v 21) (.c 1)) (.letI (.wr .i64 (.v 27)) (.letI (.cmp .neq (.v 11) (.v 13)) (.ite (.v 29) (.exit (.fail 180)) (.again [.v 26, .v 24, .v 26, .v 28] [])))))) (.exit (.fail 180)))))) (.exit (.fail 180)))))))))) (.exit (.letI (.add (.v 12) (.c 1)) (.letI (.wr .i64 (.v 16)) (.letI (.add (.v 14) (.c 1)) (.letI (.wr .i64 (.v 18)) (.letI (.sub (.v 8) (.v 13)) (.letI (.wr .u64 (.v 20)) (.letI (.cmp .eql (.v 21) (.c 0)) (.ite (.v 22) (.letI (.add (.v 19) (.c 1)) (.letI (.wr .i64 (.v 23)) (.letI (.cmp .eql (.v 6) (.v 13)) (.ite (.v 25) (.letI (.add (.v 17) (.c 1)) (.letI (.wr .i64 (.v 26)) (.letI (.cmp .lss (.v 6) (.v 8)) (.letI (.not (.v 28)) (.ite (.v 29) (.letI (.add (.v 27) (.c 1)) (.letI (.wr .i64 (.v 30)) (.letI (.add (.v 8) (.c 1)) (.letI (.sub (.v 32) (.c 1)) (.letI (.cmp .eql (.v 6) (.v 33)) (.ite (.v 34) (.letI (.add (.v 24) (.c 1)) (.letI (.wr .i64 (.v 35)) (.letI (.add (.v 31) (.c 1)) (.letI (.wr .i64 (.v 37)) (.letI (.cmp .lss (.v 6) (.v 32)) (.need .neq (.v 39) (.c 0) (.done [] []))))))) (.fail 180))))))) (.fail 180)))))) (.letI (.add (.v 17) (.c 1)) (.letI (.wr .i64 (.v 26)) (.letI (.add (.v 8) (.c 1)) (.letI (.sub (.v 28) (.c 1)) (.letI (.cmp .eql (.v 6) (.v 29)) (.ite (.v 30) (.letI (.add (.v 24) (.c 1)) (.letI (.wr .i64 (.v 31)) (.fail 180))) (.fail 180))))))))))) (.fail 180)))))))))))))))))))))
theorem TicketFair_tree : (lawSpec 11 [.one (.i .i64), .slc [.i .i64]]).exe Tryz.prog (L2.cfg2 Tryz.prog) [{ f := 11, reg := 7, ints := [(7, 0, 12)], cells := [(6, [0], 0, 0, 12), (6, [0], 1, -9223372036854775808, 9223372036854775807)] }, { f := 11, reg := 11, ints := [(8, 0, 12)], cells := [(6, [0], 1, -9223372036854775808, 9223372036854775807), (6, [1], 0, 0, 12), (6, [1], 1, -9223372036854775808, 9223372036854775807)] }, { f := 11, reg := 14, ints := [(9, 0, 10)], cells := [(6, [0], 1, -9223372036854775808, 9223372036854775807), (6, [1], 1, -9223372036854775808, 9223372036854775807)] }] 20 200 = TicketFair_t := by kernel_rfl
theorem TicketFair_vc (Q : List Int → List (List Int) → Prop) (v0 v1 v2 : Int) (L0 : List Int) : TicketFair_t.dn ⟨Q, []⟩ 3 [v2, v1, v0] 1 [L0] = ((L2.yes L2.f_messuagelaw2_begun).rel.pre [] [] ∧
((L2.yes L2.f_messuagelaw2_begun).rel.post [] [] [] [] → ∀ v3 : Int, v3 = (v0).tmod (12 : Int) → ∀ v4 : Int, v4 = v3 + (12 : Int) → ∀ v5 : Int, v5 = (v4).tmod (12 : Int) → ∀ v6 : Int, v6 = (1 : Int) + v5 → ∃ (I0 : List Int → List (List Int) → Prop) (μ0 : List Int → List (List Int) → Nat), I0 [(0 : Int), (0 : Int), (0 : Int)] [] ∧
(∀ v7 : Int, ∀ v8 : Int, ∀ v9 : Int, I0 [v7, v8, v9] [] →
 ((v7 < v6) → ∀ v11 : Int, v11 = v9 + (1 : Int) → ∀ v12 : Int, v12 = IntKind.wrap .i64 v11 → ∀ v13 : Int, v13 = v8 + (1 : Int) → ∀ v14 : Int, v14 = v13 - (1 : Int) → ∀ v15 : Int, v15 = v7 + (1 : Int) → (v13 ≤ (12 : Int)) ∧ (I0 [v15, v13, v12] [] ∧ μ0 [v15, v13, v12] [] < μ0 [v7, v8, v9] [])) ∧
((v6 ≤ v7) → ∃ (I1 : List Int → List (List Int) → Prop) (μ1 : List Int → List (List Int) → Nat), I1 [(0 : Int), v9, (0 : Int), (0 : Int)] [] ∧
(∀ v11 : Int, ∀ v12 : Int, ∀ v13 : Int, ∀ v14 : Int, I1 [v11, v12, v13, v14] [] →
 ((v11 < v6) → ∃ (I2 : List Int → List (List Int) → Prop) (μ2 : List Int → List (List Int) → Nat), I2 [(0 : Int), v12, v14] [] ∧
(∀ v16 : Int, ∀ v17 : Int, ∀ v18 : Int, I2 [v16, v17, v18] [] →
 ((v16 < v1) → ((v16 < (10 : Int)) → (v16 < v1) ∧ (v16 < v1) ∧ ∀ v21 : Int, v21 = (L0).getD (v16).toNat 0 → ∀ v22 : Int, v22 = (v21).tmod v6 → ∀ v23 : Int, v23 = v22 + v6 → ∀ v24 : Int, v24 = IntKind.wrap .i64 v23 → ∀ v25 : Int, v25 = (v24).tmod v6 → ∀ v26 : Int, v26 = IntKind.wrap .u64 v25 → ∀ v27 : Int, v27 = v18 + (1 : Int) → ∀ v28 : Int, v28 = IntKind.wrap .i64 v27 → ((v13 = v26) → ∀ v30 : Int, v30 = v17 + (1 : Int) → ∀ v31 : Int, v31 = IntKind.wrap .i64 v30 → ∀ v32 : Int, v32 = b2i (decide (v26 < v8)) → ∀ v33 : Int, v33 = b2i (v11 == v26) → ∀ v34 : Int, v34 = b2i (v32 == 0) → ∀ v35 : Int, v35 = b2i (v33 == 0) → ((v34 ≠ v35) → False) ∧
((v34 = v35) → ((v11 ≠ v26) → ∀ v38 : Int, v38 = v28 + (1 : Int) → ∀ v39 : Int, v39 = IntKind.wrap .i64 v38 → ∀ v40 : Int, v40 = v31 + (1 : Int) → ∀ v41 : Int, v41 = IntKind.wrap .i64 v40 → (v32 ≠ 0 → ∀ v42 : Int, v42 = v26 + (1 : Int) → ∀ v43 : Int, v43 = v39 + (1 : Int) → ∀ v44 : Int, v44 = IntKind.wrap .i64 v43 → ((v13 ≠ v26) → ∀ v46 : Int, v46 = v16 + (1 : Int) → (I2 [v46, v41, v44] [] ∧ μ2 [v46, v41, v44] [] < μ2 [v16, v17, v18] [])) ∧
((v13 = v26) → False)) ∧
(v32 = 0 → ∀ v42 : Int, v42 = v16 + (1 : Int) → (I2 [v42, v41, v39] [] ∧ μ2 [v42, v41, v39] [] < μ2 [v16, v17, v18] []))) ∧
((v11 = v26) → ∀ v38 : Int, v38 = v16 + (1 : Int) → (I2 [v38, v31, v28] [] ∧ μ2 [v38, v31, v28] [] < μ2 [v16, v17, v18] [])))) ∧
((v13 ≠ v26) → ∀ v30 : Int, v30 = b2i (v11 == v26) → ∀ v31 : Int, v31 = b2i (v30 == 0) → ((v31 ≠ (1 : Int)) → False) ∧
((v31 = (1 : Int)) → ((v11 ≠ v26) → ∀ v34 : Int, v34 = v28 + (1 : Int) → ∀ v35 : Int, v35 = IntKind.wrap .i64 v34 → ∀ v36 : Int, v36 = v16 + (1 : Int) → (I2 [v36, v17, v35] [] ∧ μ2 [v36, v17, v35] [] < μ2 [v16, v17, v18] [])) ∧
((v11 = v26) → ∀ v34 : Int, v34 = v16 + (1 : Int) → (I2 [v34, v17, v28] [] ∧ μ2 [v34, v17, v28] [] < μ2 [v16, v17, v18] []))))) ∧
(((10 : Int) ≤ v16) → ∀ v21 : Int, v21 = v18 + (1 : Int) → ∀ v22 : Int, v22 = IntKind.wrap .i64 v21 → ((v11 = v13) → ∀ v24 : Int, v24 = v17 + (1 : Int) → ∀ v25 : Int, v25 = IntKind.wrap .i64 v24 → ((v11 < v8) → ∀ v27 : Int, v27 = v11 + (1 : Int) → ∀ v28 : Int, v28 = v22 + (1 : Int) → ∀ v29 : Int, v29 = IntKind.wrap .i64 v28 → ((v11 ≠ v13) → False) ∧
((v11 = v13) → (I1 [v27, v25, v27, v29] [] ∧ μ1 [v27, v25, v27, v29] [] < μ1 [v11, v12, v13, v14] []))) ∧
((v8 ≤ v11) → False)) ∧
((v11 ≠ v13) → False))) ∧
((v1 ≤ v16) → ∀ v20 : Int, v20 = v18 + (1 : Int) → ∀ v21 : Int, v21 = IntKind.wrap .i64 v20 → ((v11 = v13) → ∀ v23 : Int, v23 = v17 + (1 : Int) → ∀ v24 : Int, v24 = IntKind.wrap .i64 v23 → ((v11 < v8) → ∀ v26 : Int, v26 = v11 + (1 : Int) → ∀ v27 : Int, v27 = v21 + (1 : Int) → ∀ v28 : Int, v28 = IntKind.wrap .i64 v27 → ((v11 ≠ v13) → False) ∧
((v11 = v13) → (I1 [v26, v24, v26, v28] [] ∧ μ1 [v26, v24, v26, v28] [] < μ1 [v11, v12, v13, v14] []))) ∧
((v8 ≤ v11) → False)) ∧
((v11 ≠ v13) → False)))) ∧
((v6 ≤ v11) → ∀ v16 : Int, v16 = v12 + (1 : Int) → ∀ v17 : Int, v17 = IntKind.wrap .i64 v16 → ∀ v18 : Int, v18 = v14 + (1 : Int) → ∀ v19 : Int, v19 = IntKind.wrap .i64 v18 → ∀ v20 : Int, v20 = v8 - v13 → ∀ v21 : Int, v21 = IntKind.wrap .u64 v20 → ((v21 = (0 : Int)) → ∀ v23 : Int, v23 = v19 + (1 : Int) → ∀ v24 : Int, v24 = IntKind.wrap .i64 v23 → ((v6 = v13) → ∀ v26 : Int, v26 = v17 + (1 : Int) → ∀ v27 : Int, v27 = IntKind.wrap .i64 v26 → ∀ v28 : Int, v28 = b2i (decide (v6 < v8)) → ∀ v29 : Int, v29 = b2i (v28 == 0) → (v29 ≠ 0 → ∀ v30 : Int, v30 = v27 + (1 : Int) → ∀ v31 : Int, v31 = IntKind.wrap .i64 v30 → ∀ v32 : Int, v32 = v8 + (1 : Int) → ∀ v33 : Int, v33 = v32 - (1 : Int) → ((v6 = v33) → ∀ v35 : Int, v35 = v24 + (1 : Int) → ∀ v36 : Int, v36 = IntKind.wrap .i64 v35 → ∀ v37 : Int, v37 = v31 + (1 : Int) → ∀ v38 : Int, v38 = IntKind.wrap .i64 v37 → ∀ v39 : Int, v39 = b2i (decide (v6 < v32)) → (v39 ≠ (0 : Int)) ∧ Q [] []) ∧
((v6 ≠ v33) → False)) ∧
(v29 = 0 → False)) ∧
((v6 ≠ v13) → ∀ v26 : Int, v26 = v17 + (1 : Int) → ∀ v27 : Int, v27 = IntKind.wrap .i64 v26 → ∀ v28 : Int, v28 = v8 + (1 : Int) → ∀ v29 : Int, v29 = v28 - (1 : Int) → ((v6 = v29) → ∀ v31 : Int, v31 = v24 + (1 : Int) → ∀ v32 : Int, v32 = IntKind.wrap .i64 v31 → False) ∧
((v6 ≠ v29) → False))) ∧
((v21 ≠ (0 : Int)) → False))))))) := by kernel_rfl
set_option maxHeartbeats 4000000 in
theorem ticketFair_holds : ((lawSpec 11 [.one (.i .i64), .slc [.i .i64]]).withPre fun _ => True).Holds Tryz.prog L2.ro := FSpec.holdsV (cfg := L2.cfg2 Tryz.prog) [{ f := 11, reg := 7, ints := [(7, 0, 12)], cells := [(6, [0], 0, 0, 12), (6, [0], 1, -9223372036854775808, 9223372036854775807)] }, { f := 11, reg := 11, ints := [(8, 0, 12)], cells := [(6, [0], 1, -9223372036854775808, 9223372036854775807), (6, [1], 0, 0, 12), (6, [1], 1, -9223372036854775808, 9223372036854775807)] }, { f := 11, reg := 14, ints := [(9, 0, 10)], cells := [(6, [0], 1, -9223372036854775808, 9223372036854775807), (6, [1], 1, -9223372036854775808, 9223372036854775807)] }] 20 200 cfg2_ok mixed (t := TicketFair_t) (by rw [exe_withPre]; exact TicketFair_tree) (by
  show ∀ (v0 v1 v2 : Int) (L0 : List Int), _
  intro v0 v1 v2 L0 hp hr hl
  have hr : ((-9223372036854775808 : Int) ≤ v0 ∧ v0 ≤ (9223372036854775807 : Int)) ∧ ((0 : Int) ≤ v1 ∧ v1 ≤ (9223372036854775807 : Int)) ∧ ((0 : Int) ≤ v2 ∧ v2 ≤ (9223372036854775807 : Int)) ∧ True := hr
  have hp : (True ∧ ((0 : Int) ≤ v1 ∧ v1 ≤ v2 ∧ (L0.length : Int) = v1 * ((1 : Nat) : Int) ∧ ((1 : Nat) ≠ 1 → [v0, v1, v2].getD 3 0 = v1 * ((1 : Nat) : Int)) ∧ ∀ j, j < L0.length → ((oneKind [.i .i64]).getD (j % (oneKind [.i .i64]).length) (.i .i64)).lo ≤ L0.getD j 0 ∧ L0.getD j 0 ≤ ((oneKind [.i .i64]).getD (j % (oneKind [.i .i64]).length) (.i .i64)).hi)) ∧ True := hp
  show TicketFair_t.dn ⟨_, []⟩ 3 [v2, v1, v0] 1 [L0]
  rw [TicketFair_vc]
  show ((L2.yes L2.f_messuagelaw2_begun).rel.pre [] [] ∧ _)
  refine ⟨trivial, fun _ => ?_⟩
  intro v3 e3 v4 e4 v5 e5 v6 e6
  have h6 : 1 ≤ v6 ∧ v6 ≤ 12 := by
    have := modN v0 12 (by omega)
    subst e6 e5 e4 e3; omega
  refine ⟨fun xs _ => match xs with | [i, c, n] => 0 ≤ i ∧ i ≤ v6 ∧ c = i | _ => False, fun xs _ => match xs with | i :: _ => (12 - i).toNat | _ => 0, ?_, ?_⟩ <;> dsimp only
  · omega
  · intro v7 v8 v9 hI
    refine ⟨fun c1 => ?_, fun c1 => ?_⟩
    · repeat' first | refine And.intro ?_ ?_ | intro _
      all_goals first | trivial | omega
    · refine ⟨fun xs _ => match xs with | [i, dn, p, pn] => 0 ≤ i ∧ i ≤ v6 ∧ p = i | _ => False, fun xs _ => match xs with | i :: _ => (12 - i).toNat | _ => 0, ?_, ?_⟩ <;> dsimp only
      · omega
      · intro v11 v12 v13 v14 hJ
        refine ⟨fun c2 => ?_, fun c2 => ?_⟩
        · refine ⟨fun xs _ => match xs with | [k, a, b] => 0 ≤ k | _ => False, fun xs _ => match xs with | i :: _ => (10 - i).toNat | _ => 0, ?_, ?_⟩ <;> dsimp only
          · omega
          · intro v16 v17 v18 hK
            refine ⟨fun c3 => ⟨fun c4 => ⟨c3, c3, ?_⟩, fun c4 => ?_⟩, fun c3 => ?_⟩
            · intro v21 e21 v22 e22 v23 e23 v24 e24 v25 e25 v26 e26
              have h25 : 0 ≤ v26 ∧ v26 < v6 := by
                have h := tmod_bd v21 (n := v6) (by omega)
                rw [← e22] at h
                have e24' : v24 = v23 := by rw [e24, wrapI]; omega
                have := modN v21 v6 (by omega)
                rw [← e22, ← e23, ← e24', ← e25] at this
                rw [e26, wrapU]; omega
              clear e26 e25 e24 e23 e22 e21
              simp only [b2i]
              repeat' first | refine And.intro ?_ ?_ | intro _
              all_goals first | trivial | omega | grind
            · repeat' first | refine And.intro ?_ ?_ | intro _
              all_goals first | trivial | omega | grind
            · repeat' first | refine And.intro ?_ ?_ | intro _
              all_goals first | trivial | omega | grind
        · simp only [b2i, wrapU]
          repeat' first | refine And.intro ?_ ?_ | intro _
          all_goals first | trivial | omega | grind)

noncomputable def TicketFair_n_t : Tree := .call 25 (L2.yes L2.f_messuagelaw2_begun).rel [] [] 0 0 (.letI (.rem (.v 0) (.c 12)) (.letI (.add (.v 1) (.c 12)) (.letI (.rem (.v 2) (.c 12)) (.letI (.add (.c 1) (.v 3)) (.loop [.c (0), .c (0), .c (0)] [] (.letI (.cmp .lss (.v 5) (.v 4)) (.ite (.v 8) (.letI (.add (.v 7) (.c 1)) (.letI (.wr .i64 (.v 9)) (.letI (.add (.v 6) (.c 1)) (.letI (.sub (.v 11) (.c 1)) (.letI (.add (.v 5) (.c 1)) (.need .leq (.v 11) (.c 12) (.again [.v 13, .v 11, .v 10] []))))))) (.exit (.loop [.c (0), .v 7, .c (0), .c (0)] [] (.letI (.cmp .lss (.v 9) (.v 4)) (.ite (.v 13) (.loop [.c (0), .v 10, .v 12] [] (.exit (.letI (.add (.v 16) (.c 1)) (.letI (.wr .i64 (.v 17)) (.letI (.cmp .eql (.v 9) (.v 11)) (.ite (.v 19) (.letI (.add (.v 15) (.c 1)) (.letI (.wr .i64 (.v 20)) (.letI (.cmp .lss (.v 9) (.v 6)) (.ite (.v 22) (.letI (.add (.v 9) (.c 1)) (.letI (.add (.v 18) (.c 1)) (.letI (.wr .i64 (.v 24)) (.letI (.cmp .neq (.v 9) (.v 11)) (.ite (.v 26) (.exit (.fail 180)) (.again [.v 23, .v 21, .v 23, .v 25] [])))))) (.exit (.fail 180)))))) (.exit (.fail 180)))))))) (.exit (.letI (.add (.v 10) (.c 1)) (.letI (.wr .i64 (.v 14)) (.letI (.add (.v 12) (.c 1)) (.letI (.wr .i64 (.v 16)) (.letI (.sub (.v 6) (.v 11)) (.letI (.wr .u64 (.v 18)) (.letI (.cmp .eql (.v 19) (.c 0)) (.ite (.v 20) (.letI (.add (.v 17) (.c 1)) (.letI (.wr .i64 (.v 21)) (.letI (.cmp .eql (.v 4) (.v 11)) (.ite (.v 23) (.letI (.add (.v 15) (.c 1)) (.letI (.wr .i64 (.v 24)) (.letI (.cmp .lss (.v 4) (.v 6)) (.letI (.not (.v 26)) (.ite (.v 27) (.letI (.add (.v 25) (.c 1)) (.letI (.wr .i64 (.v 28)) (.letI (.add (.v 6) (.c 1)) (.letI (.sub (.v 30) (.c 1)) (.letI (.cmp .eql (.v 4) (.v 31)) (.ite (.v 32) (.letI (.add (.v 22) (.c 1)) (.letI (.wr .i64 (.v 33)) (.letI (.add (.v 29) (.c 1)) (.letI (.wr .i64 (.v 35)) (.letI (.cmp .lss (.v 4) (.v 30)) (.need .neq (.v 37) (.c 0) (.done [] []))))))) (.fail 180))))))) (.fail 180)))))) (.letI (.add (.v 15) (.c 1)) (.letI (.wr .i64 (.v 24)) (.letI (.add (.v 6) (.c 1)) (.letI (.sub (.v 26) (.c 1)) (.letI (.cmp .eql (.v 4) (.v 27)) (.ite (.v 28) (.letI (.add (.v 22) (.c 1)) (.letI (.wr .i64 (.v 29)) (.fail 180))) (.fail 180))))))))))) (.fail 180)))))))))))))))))))))
theorem TicketFair_n_tree : (lawSpec 11 [.one (.i .i64), .nil]).exe Tryz.prog (L2.cfg2 Tryz.prog) [{ f := 11, reg := 7, ints := [(7, 0, 12)], cells := [(6, [0], 0, 0, 12), (6, [0], 1, -9223372036854775808, 9223372036854775807)] }, { f := 11, reg := 11, ints := [(8, 0, 12)], cells := [(6, [0], 1, -9223372036854775808, 9223372036854775807), (6, [1], 0, 0, 12), (6, [1], 1, -9223372036854775808, 9223372036854775807)] }, { f := 11, reg := 14, ints := [(9, 0, 10)], cells := [(6, [0], 1, -9223372036854775808, 9223372036854775807), (6, [1], 1, -9223372036854775808, 9223372036854775807)] }] 20 200 = TicketFair_n_t := by kernel_rfl
theorem TicketFair_n_vc (Q : List Int → List (List Int) → Prop) (v0 : Int) : TicketFair_n_t.dn ⟨Q, []⟩ 1 [v0] 0 [] = ((L2.yes L2.f_messuagelaw2_begun).rel.pre [] [] ∧
((L2.yes L2.f_messuagelaw2_begun).rel.post [] [] [] [] → ∀ v1 : Int, v1 = (v0).tmod (12 : Int) → ∀ v2 : Int, v2 = v1 + (12 : Int) → ∀ v3 : Int, v3 = (v2).tmod (12 : Int) → ∀ v4 : Int, v4 = (1 : Int) + v3 → ∃ (I0 : List Int → List (List Int) → Prop) (μ0 : List Int → List (List Int) → Nat), I0 [(0 : Int), (0 : Int), (0 : Int)] [] ∧
(∀ v5 : Int, ∀ v6 : Int, ∀ v7 : Int, I0 [v5, v6, v7] [] →
 ((v5 < v4) → ∀ v9 : Int, v9 = v7 + (1 : Int) → ∀ v10 : Int, v10 = IntKind.wrap .i64 v9 → ∀ v11 : Int, v11 = v6 + (1 : Int) → ∀ v12 : Int, v12 = v11 - (1 : Int) → ∀ v13 : Int, v13 = v5 + (1 : Int) → (v11 ≤ (12 : Int)) ∧ (I0 [v13, v11, v10] [] ∧ μ0 [v13, v11, v10] [] < μ0 [v5, v6, v7] [])) ∧
((v4 ≤ v5) → ∃ (I1 : List Int → List (List Int) → Prop) (μ1 : List Int → List (List Int) → Nat), I1 [(0 : Int), v7, (0 : Int), (0 : Int)] [] ∧
(∀ v9 : Int, ∀ v10 : Int, ∀ v11 : Int, ∀ v12 : Int, I1 [v9, v10, v11, v12] [] →
 ((v9 < v4) → ∃ (I2 : List Int → List (List Int) → Prop) (μ2 : List Int → List (List Int) → Nat), I2 [(0 : Int), v10, v12] [] ∧
(∀ v14 : Int, ∀ v15 : Int, ∀ v16 : Int, I2 [v14, v15, v16] [] →
 ∀ v17 : Int, v17 = v16 + (1 : Int) → ∀ v18 : Int, v18 = IntKind.wrap .i64 v17 → ((v9 = v11) → ∀ v20 : Int, v20 = v15 + (1 : Int) → ∀ v21 : Int, v21 = IntKind.wrap .i64 v20 → ((v9 < v6) → ∀ v23 : Int, v23 = v9 + (1 : Int) → ∀ v24 : Int, v24 = v18 + (1 : Int) → ∀ v25 : Int, v25 = IntKind.wrap .i64 v24 → ((v9 ≠ v11) → False) ∧
((v9 = v11) → (I1 [v23, v21, v23, v25] [] ∧ μ1 [v23, v21, v23, v25] [] < μ1 [v9, v10, v11, v12] []))) ∧
((v6 ≤ v9) → False)) ∧
((v9 ≠ v11) → False))) ∧
((v4 ≤ v9) → ∀ v14 : Int, v14 = v10 + (1 : Int) → ∀ v15 : Int, v15 = IntKind.wrap .i64 v14 → ∀ v16 : Int, v16 = v12 + (1 : Int) → ∀ v17 : Int, v17 = IntKind.wrap .i64 v16 → ∀ v18 : Int, v18 = v6 - v11 → ∀ v19 : Int, v19 = IntKind.wrap .u64 v18 → ((v19 = (0 : Int)) → ∀ v21 : Int, v21 = v17 + (1 : Int) → ∀ v22 : Int, v22 = IntKind.wrap .i64 v21 → ((v4 = v11) → ∀ v24 : Int, v24 = v15 + (1 : Int) → ∀ v25 : Int, v25 = IntKind.wrap .i64 v24 → ∀ v26 : Int, v26 = b2i (decide (v4 < v6)) → ∀ v27 : Int, v27 = b2i (v26 == 0) → (v27 ≠ 0 → ∀ v28 : Int, v28 = v25 + (1 : Int) → ∀ v29 : Int, v29 = IntKind.wrap .i64 v28 → ∀ v30 : Int, v30 = v6 + (1 : Int) → ∀ v31 : Int, v31 = v30 - (1 : Int) → ((v4 = v31) → ∀ v33 : Int, v33 = v22 + (1 : Int) → ∀ v34 : Int, v34 = IntKind.wrap .i64 v33 → ∀ v35 : Int, v35 = v29 + (1 : Int) → ∀ v36 : Int, v36 = IntKind.wrap .i64 v35 → ∀ v37 : Int, v37 = b2i (decide (v4 < v30)) → (v37 ≠ (0 : Int)) ∧ Q [] []) ∧
((v4 ≠ v31) → False)) ∧
(v27 = 0 → False)) ∧
((v4 ≠ v11) → ∀ v24 : Int, v24 = v15 + (1 : Int) → ∀ v25 : Int, v25 = IntKind.wrap .i64 v24 → ∀ v26 : Int, v26 = v6 + (1 : Int) → ∀ v27 : Int, v27 = v26 - (1 : Int) → ((v4 = v27) → ∀ v29 : Int, v29 = v22 + (1 : Int) → ∀ v30 : Int, v30 = IntKind.wrap .i64 v29 → False) ∧
((v4 ≠ v27) → False))) ∧
((v19 ≠ (0 : Int)) → False))))))) := by kernel_rfl
set_option maxHeartbeats 4000000 in
theorem ticketFair_holds_n : ((lawSpec 11 [.one (.i .i64), .nil]).withPre fun _ => True).Holds Tryz.prog L2.ro := FSpec.holdsV (cfg := L2.cfg2 Tryz.prog) [{ f := 11, reg := 7, ints := [(7, 0, 12)], cells := [(6, [0], 0, 0, 12), (6, [0], 1, -9223372036854775808, 9223372036854775807)] }, { f := 11, reg := 11, ints := [(8, 0, 12)], cells := [(6, [0], 1, -9223372036854775808, 9223372036854775807), (6, [1], 0, 0, 12), (6, [1], 1, -9223372036854775808, 9223372036854775807)] }, { f := 11, reg := 14, ints := [(9, 0, 10)], cells := [(6, [0], 1, -9223372036854775808, 9223372036854775807), (6, [1], 1, -9223372036854775808, 9223372036854775807)] }] 20 200 cfg2_ok mixed (t := TicketFair_n_t) (by rw [exe_withPre]; exact TicketFair_n_tree) (by
  show ∀ (v0 : Int) , _
  intro v0  hp hr hl
  have hr : ((-9223372036854775808 : Int) ≤ v0 ∧ v0 ≤ (9223372036854775807 : Int)) ∧ True := hr
  have hp : True ∧ True := hp
  show TicketFair_n_t.dn ⟨_, []⟩ 1 [v0] 0 []
  rw [TicketFair_n_vc]
  show ((L2.yes L2.f_messuagelaw2_begun).rel.pre [] [] ∧ _)
  refine ⟨trivial, fun _ => ?_⟩
  intro v1 e1 v2 e2 v3 e3 v4 e4
  have h4 : 1 ≤ v4 ∧ v4 ≤ 12 := by
    have := modN v0 12 (by omega)
    subst e4 e3 e2 e1; omega
  refine ⟨fun xs _ => match xs with | [i, c, n] => 0 ≤ i ∧ i ≤ v4 ∧ c = i | _ => False, fun xs _ => match xs with | i :: _ => (12 - i).toNat | _ => 0, ?_, ?_⟩ <;> dsimp only
  · omega
  · intro v7 v8 v9 hI
    refine ⟨fun c1 => ?_, fun c1 => ?_⟩
    · repeat' first | refine And.intro ?_ ?_ | intro _
      all_goals first | trivial | omega
    · refine ⟨fun xs _ => match xs with | [i, dn, p, pn] => 0 ≤ i ∧ i ≤ v4 ∧ p = i | _ => False, fun xs _ => match xs with | i :: _ => (12 - i).toNat | _ => 0, ?_, ?_⟩ <;> dsimp only
      · omega
      · intro v11 v12 v13 v14 hJ
        refine ⟨fun c2 => ?_, fun c2 => ?_⟩
        · refine ⟨fun _ _ => True, fun _ _ => 0, trivial, ?_⟩
          intro v16 v17 v18 hK
          repeat' first | refine And.intro ?_ ?_ | intro _
          all_goals first | trivial | omega | grind
        · simp only [b2i, wrapU]
          repeat' first | refine And.intro ?_ ?_ | intro _
          all_goals first | trivial | omega | grind)

theorem ticketFair_calls {H : Type} {enc : TypeId × Value → H} {W : World} {base : Nat} {args : Array Value} {ds : List (DataW H)} {p : List MemPlace} (hval : ∀ (j : Nat) t v, Tryz.f11.params[j]? = some t → args[j]? = some v → Value.okWide Tryz.prog W .any base t v)
    (hA : DataW.TrodAll enc Tryz.prog W 0 (fun _ => true) true Tryz.f11.params.toList args.toList ds p) (hL : laidMetH Tryz.prog laid1 W) : Calls Tryz.prog 11 args W fun e W' => e = .returned (.bool true) ∧ Go.Sx.Frame ⟨W, [], L2.ro⟩ W' := by
  rw [Tryz.params11] at hA hval
  obtain ⟨v0, v1, d0, d1, p0, p1, rfl, rfl, rfl, h0, h1⟩ := trodAll_two hA
  obtain ⟨n0, q0⟩ := par_int (base := 0) und3 (hval 0 3 v0 rfl rfl) h0
  rcases par_flats (base := 0) (f := 9) und23 flat3 cells3 (by decide) (hval 1 23 v1 rfl rfl) h1 with q1 | ⟨e1, q1⟩
  · exact law_calls (ticketFair_holds_n) Tryz.func11 (show Tryz.f11.body = some _ from rfl) (by kernel_rfl) (.cons q0 (.cons q1 .none)) trivial (ro_of_laid hL)
  · exact law_calls (ticketFair_holds) Tryz.func11 (show Tryz.f11.body = some _ from rfl) (by kernel_rfl) (.cons q0 (.cons q1 .none)) trivial (ro_of_laid hL)
set_option maxHeartbeats 1000000 in
theorem ticketFair_lifted (os : Os) (started : os.Started) (H : Type) (enc : TypeId × Value → H) :
    ReturnsInHanded {} Tryz.checked os 11 .any (fun w args => (Rows.ticketFairSpec.pre enc Tryz.prog Tryz.f11 [] false w args ∧ laidMetH Tryz.prog laid1 w) ∧ sizedMet enc Tryz.prog Tryz.f11 (OpenSpec.ofChange Rows.ticketFairSpec) false w args)
      (Rows.ticketFairSpec.post enc Tryz.prog Tryz.f11 false true false false) := by
  refine returnsInHanded_of_change_and (C := Tryz.checked) (X := fun w _ => laidMetH Tryz.prog laid1 w) (fun _ _ _ hh h => h.of_heap hh) Tryz.own started (by kernel_rfl) Tryz.func11
    (ChangeSpec.witness_at (enc := enc) (C := Tryz.checked) (os := os) (X := fun w _ => laidMetH Tryz.prog laid1 w) false (laidWorld os) #[.int .i64 0, .slice none 0 0] 8 rfl (by kernel_rfl) (by kernel_rfl) (by kernel_rfl) (by kernel_rfl) (by kernel_rfl) (laidWorld_met os _)) ?_
  intro W base args ds gs before hval0 hW _ _ hL _
  have hval : ∀ (j : Nat) t v, Tryz.f11.params[j]? = some t → args[j]? = some v → Value.okWide Tryz.prog W .any base t v := hval0
  have hW' := hW
  obtain ⟨p, q, hA0, hV0, rfl, hfz, hnd⟩ := hW
  have hcall := ticketFair_calls (enc := enc) hval hA0 hL
  refine Calls.mono hcall ?_
  rintro e W' ⟨rfl, hfr⟩
  exact ⟨_, rfl, post_kept Tryz.laidOut (by kernel_rfl) rfl rfl und4 hW' hfr (by
    have hg : gs = [] := by cases gs with | nil => rfl | cons g r => exact absurd hV0 (by intro h; cases h)
    subst hg
    have hA1 : DataW.TrodAll enc Tryz.prog W 0 (fun _ => true) true Tryz.f11.params.toList args.toList ds p := hA0
    rw [Tryz.params11] at hA1
    obtain ⟨v0, v1, d0, d1, p0, p1, ea, rfl, ec, h0, h1⟩ := trodAll_two hA1
    rfl)⟩

theorem ticketFair_row : Rows.TicketFairSaid :=
  OpenClaim.holds_of_wide 11 Tryz.f11 rfl rfl rfl rfl rfl rfl rfl ⟨rfl, rfl, rfl, rfl, rfl⟩ rfl rfl rfl rfl rfl (by kernel_rfl) Tryz.func11 (restFacts.2 _ _ _ _ _ Tryz.mayEnter Tryz.liftsFinal Tryz.make (by kernel_rfl))
    (of_decide_eq_true (by kernel_rfl)) (by unfold Func.isWrapper; rw [if_neg (of_decide_eq_false (by kernel_rfl))]; exact ⟨rfl, rfl⟩)
    (fun os started H enc _ => ticketFair_lifted os started H enc)
theorem ticketFair_card : Rows.TicketFairCardSaid :=
  Claim7.holds_tied_plain_at .later [] [.handle] true (true, "8c0441bbc8609432f713c1c89f5af20e6af72254f1482b9eed96a33066278ab6") true
    ticketFair_row (fun _ h => by cases h) (by kernel_rfl) (fun _ h => by cases h) ticketFair_row_tie rfl ⟨rfl, rfl⟩ Tryz.mainIs rfl
    (fun f fn hf hfn => by
      obtain rfl : f = 11 := Option.some.inj ((show Tryz.prog.funcNamed "messuage/messuagelaw2.TicketFair" = some 11 by kernel_rfl).symm.trans hf) |>.symm
      obtain rfl : fn = Tryz.f11 := (Option.some.inj (Tryz.func11.symm.trans hfn)).symm
      exact ⟨by kernel_rfl, fun j t ht => by
        rw [Tryz.params11] at ht
        rcases j with _ | _ | j
        · obtain rfl : 3 = t := by simpa using ht
          exact (show Tryz.prog.wantsStandIn 3 = false by kernel_rfl)
        · obtain rfl : 23 = t := by simpa using ht
          exact (show Tryz.prog.wantsStandIn 23 = false by kernel_rfl)
        · simp at ht⟩)
    (by kernel_rfl)
#print axioms ticketFair_card
end Go.Proofs.YthjfkblnbecjgaaGreatDoor
