/- The statement messuagelaw11.CapsRights of the seat: for every input the law returns true; the condition: errors.errorType is as the program lays it. -/
import Derived.Test.YtegeplgckfpleaaGreatDoorL2B
import Derived.Test.YtegeplgckfpleaaGreatDoorSxM7
import Derived.Test.YtegeplgckfpleaaGreatDoorL2Cr
import Derived.Test.YtegeplgckfpleaaGreatDoorL2Cd
set_option linter.unusedVariables false
set_option linter.unusedSimpArgs false
open Go Go.Sx
namespace Go.Proofs.YtegeplgckfpleaaGreatDoor
open Go.ChangeShapes Go.WideShapes Go.RowKit
set_option maxRecDepth 100000

noncomputable def CapsRights_t : Tree := .call 15 (Go.Sx.L2.yes Go.Sx.L2.f_messuagelaw11_begun).rel [] [] 0 0 (.letL (.lit [.c (0), .c (0), .c (0), .c (0), .c (0), .c (0), .c (0), .c (0), .c (0), .c (0), .c (0), .c (0), .c (0), .c (0), .c (0), .c (0), .c (0), .c (0), .c (0), .c (0), .c (0), .c (0), .c (0), .c (0), .c (0), .c (0), .c (0), .c (0), .c (0), .c (0), .c (0), .c (0)]) (.call 25 (Go.Sx.L2.cRoot).rel [.c (1), .c (32), .c (0), .c (0), .c (1)] [1] 1 1 (.loop [.c (0), .c (0), .c (3)] [2] (.letI (.cmp .lss (.v 3) (.v 0)) (.ite (.v 6) (.letI (.cmp .lss (.v 4) (.c 7)) (.ite (.v 7) (.letI (.cmp .lss (.v 3) (.c 20)) (.ite (.v 8) (.need .lss (.v 3) (.v 0) (.need .lss (.v 3) (.v 0) (.letI (.get 0 (.v 3)) (.letI (.add (.v 4) (.c 1)) (.call 26 (Go.Sx.L2.cDer).rel [.c (1), .c (32), .c (0), .v 4, .c (0), .v 10, .v 9] [3] 1 1 (.letI (.cmp .leq (.c 1) (.v 9)) (.ite (.v 12) (.letI (.cmp .leq (.v 9) (.c 3)) (.letI (.not (.v 13)) (.ite (.v 14) (.letI (.cmp .neq (.v 11) (.c 2)) (.ite (.v 15) (.exit (.fail 180)) (.letI (.add (.v 3) (.c 1)) (.again [.v 16, .v 4, .v 5] [4])))) (.letI (.rem (.v 9) (.c 2)) (.letI (.cmp .eql (.v 15) (.c 0)) (.ite (.v 16) (.letI (.cmp .lss (.v 9) (.c 2)) (.ite (.v 17) (.letI (.cmp .neq (.v 11) (.c 0)) (.ite (.v 18) (.exit (.fail 180)) (.letI (.add (.v 3) (.c 1)) (.again [.v 19, .v 10, .v 9] [4])))) (.letI (.cmp .leq (.c 2) (.v 5)) (.letI (.not (.v 18)) (.ite (.v 19) (.letI (.cmp .neq (.v 11) (.c 5)) (.ite (.v 20) (.exit (.fail 180)) (.letI (.add (.v 3) (.c 1)) (.again [.v 21, .v 4, .v 5] [4])))) (.letI (.cmp .neq (.v 11) (.c 0)) (.ite (.v 20) (.exit (.fail 180)) (.letI (.add (.v 3) (.c 1)) (.again [.v 21, .v 10, .v 9] [4]))))))))) (.letI (.rem (.v 5) (.c 2)) (.letI (.cmp .eql (.v 17) (.c 1)) (.ite (.v 18) (.letI (.cmp .lss (.v 9) (.c 2)) (.ite (.v 19) (.letI (.cmp .neq (.v 11) (.c 0)) (.ite (.v 20) (.exit (.fail 180)) (.letI (.add (.v 3) (.c 1)) (.again [.v 21, .v 10, .v 9] [4])))) (.letI (.cmp .leq (.c 2) (.v 5)) (.letI (.not (.v 20)) (.ite (.v 21) (.letI (.cmp .neq (.v 11) (.c 5)) (.ite (.v 22) (.exit (.fail 180)) (.letI (.add (.v 3) (.c 1)) (.again [.v 23, .v 4, .v 5] [4])))) (.letI (.cmp .neq (.v 11) (.c 0)) (.ite (.v 22) (.exit (.fail 180)) (.letI (.add (.v 3) (.c 1)) (.again [.v 23, .v 10, .v 9] [4]))))))))) (.letI (.cmp .neq (.v 11) (.c 5)) (.ite (.v 19) (.exit (.fail 180)) (.letI (.add (.v 3) (.c 1)) (.again [.v 20, .v 4, .v 5] [4]))))))))))))) (.letI (.cmp .neq (.v 11) (.c 2)) (.ite (.v 13) (.exit (.fail 180)) (.letI (.add (.v 3) (.c 1)) (.again [.v 14, .v 4, .v 5] [4]))))))))))) (.exit (.call 29 (Go.Sx.L2.cAt).rel [.c (1), .c (32), .c (0), .v 4] [3] 5 0 (.ite (.v 13) (.letI (.cmp .eql (.v 5) (.v 10)) (.ite (.v 14) (.letI (.cmp .eql (.v 9) (.c 1)) (.need .neq (.v 15) (.c 0) (.done [] []))) (.fail 180))) (.fail 180)))))) (.exit (.call 29 (Go.Sx.L2.cAt).rel [.c (1), .c (32), .c (0), .v 4] [3] 5 0 (.ite (.v 12) (.letI (.cmp .eql (.v 5) (.v 9)) (.ite (.v 13) (.letI (.cmp .eql (.v 8) (.c 1)) (.need .neq (.v 14) (.c 0) (.done [] []))) (.fail 180))) (.fail 180)))))) (.exit (.call 29 (Go.Sx.L2.cAt).rel [.c (1), .c (32), .c (0), .v 4] [3] 5 0 (.ite (.v 11) (.letI (.cmp .eql (.v 5) (.v 8)) (.ite (.v 12) (.letI (.cmp .eql (.v 7) (.c 1)) (.need .neq (.v 13) (.c 0) (.done [] []))) (.fail 180))) (.fail 180)))))))))
theorem CapsRights_tree : (lawSpec L2.f_messuagelaw11_CapsRights [.slc [.i .i64]]).exe Tryz.prog (withS (L2.cfgB Tryz.prog) [L2.cAt, L2.cRoot, L2.cDer, L2.cOf, L2.cBelow, L2.cRevoke, L2.cDrop]) [{ f := L2.f_messuagelaw11_CapsRights, reg := 9, ints := [(7, 0, 20), (6, 0, 7), (5, 1, 3)], lists := [(4, [0], some (-9223372036854775808, 9223372036854775807))] }] 20 200 = CapsRights_t := by kernel_rfl
theorem CapsRights_vc (Q : List Int → List (List Int) → Prop) (v0 v1 : Int) (L0 : List Int) : CapsRights_t.dn ⟨Q, []⟩ 2 [v1, v0] 1 [L0] = ((Go.Sx.L2.yes Go.Sx.L2.f_messuagelaw11_begun).rel.pre [] [] ∧
((Go.Sx.L2.yes Go.Sx.L2.f_messuagelaw11_begun).rel.post [] [] [] [] → ∀ L1 : List Int, L1 = [(0 : Int), (0 : Int), (0 : Int), (0 : Int), (0 : Int), (0 : Int), (0 : Int), (0 : Int), (0 : Int), (0 : Int), (0 : Int), (0 : Int), (0 : Int), (0 : Int), (0 : Int), (0 : Int), (0 : Int), (0 : Int), (0 : Int), (0 : Int), (0 : Int), (0 : Int), (0 : Int), (0 : Int), (0 : Int), (0 : Int), (0 : Int), (0 : Int), (0 : Int), (0 : Int), (0 : Int), (0 : Int)] → (Go.Sx.L2.cRoot).rel.pre [(1 : Int), (32 : Int), (0 : Int), (0 : Int), (1 : Int)] [L1] ∧
(∀ v2 : Int, ∀ L2 : List Int, (Go.Sx.L2.cRoot).rel.post [(1 : Int), (32 : Int), (0 : Int), (0 : Int), (1 : Int)] [L1] [v2] [L2] → ∃ (I0 : List Int → List (List Int) → Prop) (μ0 : List Int → List (List Int) → Nat), I0 [(0 : Int), (0 : Int), (3 : Int)] [L2] ∧
(∀ v3 : Int, ∀ v4 : Int, ∀ v5 : Int, ∀ L3 : List Int, I0 [v3, v4, v5] [L3] →
 ((v3 < v0) → ((v4 < (7 : Int)) → ((v3 < (20 : Int)) → (v3 < v0) ∧ (v3 < v0) ∧ ∀ v9 : Int, v9 = (L0).getD (v3).toNat 0 → ∀ v10 : Int, v10 = v4 + (1 : Int) → (Go.Sx.L2.cDer).rel.pre [(1 : Int), (32 : Int), (0 : Int), v4, (0 : Int), v10, v9] [L3] ∧
(∀ v11 : Int, ∀ L4 : List Int, (Go.Sx.L2.cDer).rel.post [(1 : Int), (32 : Int), (0 : Int), v4, (0 : Int), v10, v9] [L3] [v11] [L4] → (((1 : Int) ≤ v9) → ∀ v13 : Int, v13 = b2i (decide (v9 ≤ (3 : Int))) → ∀ v14 : Int, v14 = b2i (v13 == 0) → (v14 ≠ 0 → ((v11 ≠ (2 : Int)) → False) ∧
((v11 = (2 : Int)) → ∀ v16 : Int, v16 = v3 + (1 : Int) → (I0 [v16, v4, v5] [L4] ∧ μ0 [v16, v4, v5] [L4] < μ0 [v3, v4, v5] [L3]))) ∧
(v14 = 0 → ∀ v15 : Int, v15 = (v9).tmod (2 : Int) → ((v15 = (0 : Int)) → ((v9 < (2 : Int)) → ((v11 ≠ (0 : Int)) → False) ∧
((v11 = (0 : Int)) → ∀ v19 : Int, v19 = v3 + (1 : Int) → (I0 [v19, v10, v9] [L4] ∧ μ0 [v19, v10, v9] [L4] < μ0 [v3, v4, v5] [L3]))) ∧
(((2 : Int) ≤ v9) → ∀ v18 : Int, v18 = b2i (decide ((2 : Int) ≤ v5)) → ∀ v19 : Int, v19 = b2i (v18 == 0) → (v19 ≠ 0 → ((v11 ≠ (5 : Int)) → False) ∧
((v11 = (5 : Int)) → ∀ v21 : Int, v21 = v3 + (1 : Int) → (I0 [v21, v4, v5] [L4] ∧ μ0 [v21, v4, v5] [L4] < μ0 [v3, v4, v5] [L3]))) ∧
(v19 = 0 → ((v11 ≠ (0 : Int)) → False) ∧
((v11 = (0 : Int)) → ∀ v21 : Int, v21 = v3 + (1 : Int) → (I0 [v21, v10, v9] [L4] ∧ μ0 [v21, v10, v9] [L4] < μ0 [v3, v4, v5] [L3]))))) ∧
((v15 ≠ (0 : Int)) → ∀ v17 : Int, v17 = (v5).tmod (2 : Int) → ((v17 = (1 : Int)) → ((v9 < (2 : Int)) → ((v11 ≠ (0 : Int)) → False) ∧
((v11 = (0 : Int)) → ∀ v21 : Int, v21 = v3 + (1 : Int) → (I0 [v21, v10, v9] [L4] ∧ μ0 [v21, v10, v9] [L4] < μ0 [v3, v4, v5] [L3]))) ∧
(((2 : Int) ≤ v9) → ∀ v20 : Int, v20 = b2i (decide ((2 : Int) ≤ v5)) → ∀ v21 : Int, v21 = b2i (v20 == 0) → (v21 ≠ 0 → ((v11 ≠ (5 : Int)) → False) ∧
((v11 = (5 : Int)) → ∀ v23 : Int, v23 = v3 + (1 : Int) → (I0 [v23, v4, v5] [L4] ∧ μ0 [v23, v4, v5] [L4] < μ0 [v3, v4, v5] [L3]))) ∧
(v21 = 0 → ((v11 ≠ (0 : Int)) → False) ∧
((v11 = (0 : Int)) → ∀ v23 : Int, v23 = v3 + (1 : Int) → (I0 [v23, v10, v9] [L4] ∧ μ0 [v23, v10, v9] [L4] < μ0 [v3, v4, v5] [L3]))))) ∧
((v17 ≠ (1 : Int)) → ((v11 ≠ (5 : Int)) → False) ∧
((v11 = (5 : Int)) → ∀ v20 : Int, v20 = v3 + (1 : Int) → (I0 [v20, v4, v5] [L4] ∧ μ0 [v20, v4, v5] [L4] < μ0 [v3, v4, v5] [L3])))))) ∧
((v9 < (1 : Int)) → ((v11 ≠ (2 : Int)) → False) ∧
((v11 = (2 : Int)) → ∀ v14 : Int, v14 = v3 + (1 : Int) → (I0 [v14, v4, v5] [L4] ∧ μ0 [v14, v4, v5] [L4] < μ0 [v3, v4, v5] [L3]))))) ∧
(((20 : Int) ≤ v3) → (Go.Sx.L2.cAt).rel.pre [(1 : Int), (32 : Int), (0 : Int), v4] [L3] ∧
(∀ v9 : Int, ∀ v10 : Int, ∀ v11 : Int, ∀ v12 : Int, ∀ v13 : Int, (Go.Sx.L2.cAt).rel.post [(1 : Int), (32 : Int), (0 : Int), v4] [L3] [v9, v10, v11, v12, v13] [] → (v13 ≠ 0 → ((v5 = v10) → ∀ v15 : Int, v15 = b2i (v9 == (1 : Int)) → (v15 ≠ (0 : Int)) ∧ Q [] []) ∧
((v5 ≠ v10) → False)) ∧
(v13 = 0 → False)))) ∧
(((7 : Int) ≤ v4) → (Go.Sx.L2.cAt).rel.pre [(1 : Int), (32 : Int), (0 : Int), v4] [L3] ∧
(∀ v8 : Int, ∀ v9 : Int, ∀ v10 : Int, ∀ v11 : Int, ∀ v12 : Int, (Go.Sx.L2.cAt).rel.post [(1 : Int), (32 : Int), (0 : Int), v4] [L3] [v8, v9, v10, v11, v12] [] → (v12 ≠ 0 → ((v5 = v9) → ∀ v14 : Int, v14 = b2i (v8 == (1 : Int)) → (v14 ≠ (0 : Int)) ∧ Q [] []) ∧
((v5 ≠ v9) → False)) ∧
(v12 = 0 → False)))) ∧
((v0 ≤ v3) → (Go.Sx.L2.cAt).rel.pre [(1 : Int), (32 : Int), (0 : Int), v4] [L3] ∧
(∀ v7 : Int, ∀ v8 : Int, ∀ v9 : Int, ∀ v10 : Int, ∀ v11 : Int, (Go.Sx.L2.cAt).rel.post [(1 : Int), (32 : Int), (0 : Int), v4] [L3] [v7, v8, v9, v10, v11] [] → (v11 ≠ 0 → ((v5 = v8) → ∀ v13 : Int, v13 = b2i (v7 == (1 : Int)) → (v13 ≠ (0 : Int)) ∧ Q [] []) ∧
((v5 ≠ v8) → False)) ∧
(v11 = 0 → False))))))) := by kernel_rfl
set_option maxHeartbeats 4000000 in
theorem capsRights_holds0 : (lawSpec L2.f_messuagelaw11_CapsRights [.slc [.i .i64]]).Holds Tryz.prog L2.ro := FSpec.holdsV (cfg := withS (L2.cfgB Tryz.prog) [L2.cAt, L2.cRoot, L2.cDer, L2.cOf, L2.cBelow, L2.cRevoke, L2.cDrop]) [{ f := L2.f_messuagelaw11_CapsRights, reg := 9, ints := [(7, 0, 20), (6, 0, 7), (5, 1, 3)], lists := [(4, [0], some (-9223372036854775808, 9223372036854775807))] }] 20 200 (withS_ok cfgB_ok ⟨cAt_holds, cRoot_holds, cDer_holds, cOf_holds, cBelow_holds, cRevoke_holds, cDrop_holds, trivial⟩) mixed (t := CapsRights_t) CapsRights_tree (by
  show ∀ (v0 v1 : Int) (L0 : List Int), _
  intro v0 v1 L0 hp hr hl
  replace hr : ((0 : Int) ≤ v0 ∧ v0 ≤ (9223372036854775807 : Int)) ∧ ((0 : Int) ≤ v1 ∧ v1 ≤ (9223372036854775807 : Int)) ∧ True := hr
  replace hp : (True ∧ ((0 : Int) ≤ v0 ∧ v0 ≤ v1 ∧ (L0.length : Int) = v0 * ((1 : Nat) : Int) ∧ ((1 : Nat) ≠ 1 → [v0, v1].getD 2 0 = v0 * ((1 : Nat) : Int)) ∧ ∀ j, j < L0.length → ((oneKind [.i .i64]).getD (j % (oneKind [.i .i64]).length) (.i .i64)).lo ≤ L0.getD j 0 ∧ L0.getD j 0 ≤ ((oneKind [.i .i64]).getD (j % (oneKind [.i .i64]).length) (.i .i64)).hi)) := hp
  show CapsRights_t.dn ⟨_, []⟩ 2 [v1, v0] 1 [L0]
  rw [CapsRights_vc]
  show ((L2.yes L2.f_messuagelaw11_begun).rel.pre [] [] ∧ _)
  refine ⟨trivial, fun _ => ?_⟩
  intro L1 e1
  refine ⟨rfl, ?_⟩
  intro e T0 h0
  have hT0 : T0 = rootL 1 L1 0 0 1 := by
    have : [T0] = [rootL 1 L1 0 0 1] := h0.2
    simpa using this
  subst e1
  refine ⟨fun xs ys => match xs, ys with | [i, a, h], [T] => 0 ≤ i ∧ i ≤ 20 ∧ 0 ≤ a ∧ a ≤ 7 ∧ 1 ≤ h ∧ h ≤ 3 ∧ RT T a.toNat h | _, _ => False, fun xs _ => match xs with | i :: _ => (20 - i).toNat | _ => 0, ?_, ?_⟩ <;> dsimp only
  · rw [hT0]; exact ⟨by omega, by omega, by omega, by omega, by omega, by omega, RT.start⟩
  · intro i a h T hI
    obtain ⟨i0, i20, a0, a7, h1, h3, hR⟩ := hI
    obtain ⟨a, rfl⟩ : ∃ m : Nat, a = m := ⟨a.toNat, by omega⟩
    rw [Int.toNat_natCast] at hR
    have fin : ∀ f r pe ps ok : Int, (L2.cAt).rel.post [1, 32, 0, (a : Int)] [T] [f, r, pe, ps, ok] [] → ok = 1 ∧ r = h ∧ f = 1 := by
      intro f r pe ps ok hA
      have hA : [f, r, pe, ps, ok] = [capV 1 T 0 a 0, capV 1 T 0 a 1, capV 1 T 0 a 2, capV 1 T 0 a 3, b2i (capOk 1 T 0 a)] := hA.1
      simp only [List.cons.injEq, and_true] at hA
      have q := hR.at (by omega) h1
      obtain ⟨q1, q2, q3, q4, q5⟩ := hA
      exact ⟨by rw [q5, q.1]; rfl, by rw [q2, q.2.1], by rw [q1, q.2.2]⟩
    refine ⟨fun c1 => ⟨fun c2 => ⟨fun c3 => ?_, fun c3 => ?_⟩, fun c2 => ?_⟩, fun c1 => ?_⟩
    · refine ⟨c1, c1, ?_⟩
      intro r er x ex
      refine ⟨rfl, ?_⟩
      intro e' T' hD
      have hD : [e'] = [derE 1 T 0 a 0 x r] ∧ [T'] = [derL 1 T 0 a 0 x r] := hD
      have hd := hR.der (r := r) (by omega) h1 h3
      rw [← ex] at hd
      have hE : e' = derE 1 T 0 a 0 x r := by simpa using hD.1
      have hT' : T' = derL 1 T 0 a 0 x r := by simpa using hD.2
      have hx : x.toNat = a + 1 := by omega
      have key : (¬ (1 ≤ r ∧ r ≤ 3) ∧ e' = 2 ∧ RT T' ((a : Int)).toNat h) ∨ (1 ≤ r ∧ r ≤ 3 ∧ ¬ (r = h ∨ h = 3) ∧ e' = 5 ∧ RT T' ((a : Int)).toNat h) ∨ (1 ≤ r ∧ r ≤ 3 ∧ (r = h ∨ h = 3) ∧ e' = 0 ∧ RT T' x.toNat r) := by
        rw [hE, hT', hx, Int.toNat_natCast]
        by_cases k1 : 1 ≤ r ∧ r ≤ 3
        · by_cases k2 : r = h ∨ h = 3
          · right; right
            have := hd.2.2 k1.1 k1.2 k2
            exact ⟨k1.1, k1.2, k2, this.1, this.2⟩
          · right; left
            have := hd.2.1 k1.1 k1.2 k2
            exact ⟨k1.1, k1.2, k2, this.1, by rw [this.2]; exact hR⟩
        · left
          have := hd.1 k1
          exact ⟨k1, this.1, by rw [this.2]; exact hR⟩
      have t1 : 0 ≤ r → r.tmod 2 = r % 2 := fun h => Int.tmod_eq_emod_of_nonneg h
      have t2 : h.tmod 2 = h % 2 := Int.tmod_eq_emod_of_nonneg (by omega)
      clear hd hE hT' hD hR hp hr hl fin er
      simp only [fnSpec_post, fnSpec_pre, true_and, List.cons.injEq, and_true, List.getD_cons_zero, List.getD_cons_succ, and_imp, forall_eq, b2i_zero, b2i_eq, ne_eq, Bool.not_eq_false, Bool.not_eq_true', Bool.not_eq_false', decide_eq_true_eq, decide_eq_false_iff_not, Int.not_lt, Int.not_le, t2]
      rcases key with ⟨k1, rfl, hk⟩ | ⟨k1, k2, k3, rfl, hk⟩ | ⟨k1, k2, k3, rfl, hk⟩
      all_goals repeat' first | refine And.intro ?_ ?_ | intro _
      all_goals first | exact hk | omega | skip
      all_goals (try (have := t1 (by omega)))
      all_goals first | omega | grind [b2i]
    ·
      refine ⟨rfl, fun f r pe ps ok hA => ?_⟩
      have q := fin f r pe ps ok hA
      refine ⟨fun _ => ⟨fun _ z ez => ⟨by rw [ez, q.2.2]; decide, trivial⟩, fun c => absurd q.2.1.symm c⟩, fun c => absurd c (by rw [q.1]; decide)⟩
    ·
      refine ⟨rfl, fun f r pe ps ok hA => ?_⟩
      have q := fin f r pe ps ok hA
      refine ⟨fun _ => ⟨fun _ z ez => ⟨by rw [ez, q.2.2]; decide, trivial⟩, fun c => absurd q.2.1.symm c⟩, fun c => absurd c (by rw [q.1]; decide)⟩
    ·
      refine ⟨rfl, fun f r pe ps ok hA => ?_⟩
      have q := fin f r pe ps ok hA
      refine ⟨fun _ => ⟨fun _ z ez => ⟨by rw [ez, q.2.2]; decide, trivial⟩, fun c => absurd q.2.1.symm c⟩, fun c => absurd c (by rw [q.1]; decide)⟩)
theorem capsRights_holds : ((lawSpec L2.f_messuagelaw11_CapsRights [.slc [.i .i64]]).withPre fun _ => True).Holds Tryz.prog L2.ro := holds_withPre _ capsRights_holds0

noncomputable def CapsRights_n_t : Tree := .call 15 (Go.Sx.L2.yes Go.Sx.L2.f_messuagelaw11_begun).rel [] [] 0 0 (.letL (.lit [.c (0), .c (0), .c (0), .c (0), .c (0), .c (0), .c (0), .c (0), .c (0), .c (0), .c (0), .c (0), .c (0), .c (0), .c (0), .c (0), .c (0), .c (0), .c (0), .c (0), .c (0), .c (0), .c (0), .c (0), .c (0), .c (0), .c (0), .c (0), .c (0), .c (0), .c (0), .c (0)]) (.call 25 (Go.Sx.L2.cRoot).rel [.c (1), .c (32), .c (0), .c (0), .c (1)] [0] 1 1 (.loop [.c (0), .c (0), .c (3)] [1] (.exit (.call 29 (Go.Sx.L2.cAt).rel [.c (1), .c (32), .c (0), .v 2] [2] 5 0 (.ite (.v 8) (.letI (.cmp .eql (.v 3) (.v 5)) (.ite (.v 9) (.letI (.cmp .eql (.v 4) (.c 1)) (.need .neq (.v 10) (.c 0) (.done [] []))) (.fail 180))) (.fail 180)))))))
theorem CapsRights_n_tree : (lawSpec L2.f_messuagelaw11_CapsRights [.nil]).exe Tryz.prog (withS (L2.cfgB Tryz.prog) [L2.cAt, L2.cRoot, L2.cDer, L2.cOf, L2.cBelow, L2.cRevoke, L2.cDrop]) [{ f := L2.f_messuagelaw11_CapsRights, reg := 9, ints := [(7, 0, 20), (6, 0, 7), (5, 1, 3)], lists := [(4, [0], some (-9223372036854775808, 9223372036854775807))] }] 20 200 = CapsRights_n_t := by kernel_rfl
theorem CapsRights_n_vc (Q : List Int → List (List Int) → Prop) : CapsRights_n_t.dn ⟨Q, []⟩ 0 [] 0 [] = ((Go.Sx.L2.yes Go.Sx.L2.f_messuagelaw11_begun).rel.pre [] [] ∧
((Go.Sx.L2.yes Go.Sx.L2.f_messuagelaw11_begun).rel.post [] [] [] [] → ∀ L0 : List Int, L0 = [(0 : Int), (0 : Int), (0 : Int), (0 : Int), (0 : Int), (0 : Int), (0 : Int), (0 : Int), (0 : Int), (0 : Int), (0 : Int), (0 : Int), (0 : Int), (0 : Int), (0 : Int), (0 : Int), (0 : Int), (0 : Int), (0 : Int), (0 : Int), (0 : Int), (0 : Int), (0 : Int), (0 : Int), (0 : Int), (0 : Int), (0 : Int), (0 : Int), (0 : Int), (0 : Int), (0 : Int), (0 : Int)] → (Go.Sx.L2.cRoot).rel.pre [(1 : Int), (32 : Int), (0 : Int), (0 : Int), (1 : Int)] [L0] ∧
(∀ v0 : Int, ∀ L1 : List Int, (Go.Sx.L2.cRoot).rel.post [(1 : Int), (32 : Int), (0 : Int), (0 : Int), (1 : Int)] [L0] [v0] [L1] → ∃ (I0 : List Int → List (List Int) → Prop) (μ0 : List Int → List (List Int) → Nat), I0 [(0 : Int), (0 : Int), (3 : Int)] [L1] ∧
(∀ v1 : Int, ∀ v2 : Int, ∀ v3 : Int, ∀ L2 : List Int, I0 [v1, v2, v3] [L2] →
 (Go.Sx.L2.cAt).rel.pre [(1 : Int), (32 : Int), (0 : Int), v2] [L2] ∧
(∀ v4 : Int, ∀ v5 : Int, ∀ v6 : Int, ∀ v7 : Int, ∀ v8 : Int, (Go.Sx.L2.cAt).rel.post [(1 : Int), (32 : Int), (0 : Int), v2] [L2] [v4, v5, v6, v7, v8] [] → (v8 ≠ 0 → ((v3 = v5) → ∀ v10 : Int, v10 = b2i (v4 == (1 : Int)) → (v10 ≠ (0 : Int)) ∧ Q [] []) ∧
((v3 ≠ v5) → False)) ∧
(v8 = 0 → False)))))) := by kernel_rfl
set_option maxHeartbeats 4000000 in
theorem capsRights_holds_n0 : (lawSpec L2.f_messuagelaw11_CapsRights [.nil]).Holds Tryz.prog L2.ro := FSpec.holdsV (cfg := withS (L2.cfgB Tryz.prog) [L2.cAt, L2.cRoot, L2.cDer, L2.cOf, L2.cBelow, L2.cRevoke, L2.cDrop]) [{ f := L2.f_messuagelaw11_CapsRights, reg := 9, ints := [(7, 0, 20), (6, 0, 7), (5, 1, 3)], lists := [(4, [0], some (-9223372036854775808, 9223372036854775807))] }] 20 200 (withS_ok cfgB_ok ⟨cAt_holds, cRoot_holds, cDer_holds, cOf_holds, cBelow_holds, cRevoke_holds, cDrop_holds, trivial⟩) mixed (t := CapsRights_n_t) CapsRights_n_tree (by
  show _ → _
  intro   hp hr hl
  replace hr : True := hr
  replace hp : True := hp
  show CapsRights_n_t.dn ⟨_, []⟩ 0 [] 0 []
  rw [CapsRights_n_vc]
  show ((L2.yes L2.f_messuagelaw11_begun).rel.pre [] [] ∧ _)
  refine ⟨trivial, fun _ => ?_⟩
  intro L1 e1
  refine ⟨rfl, ?_⟩
  intro e T0 h0
  have hT0 : T0 = rootL 1 L1 0 0 1 := by
    have : [T0] = [rootL 1 L1 0 0 1] := h0.2
    simpa using this
  subst e1
  refine ⟨fun xs ys => match xs, ys with | [i, a, h], [T] => 0 ≤ i ∧ i ≤ 20 ∧ 0 ≤ a ∧ a ≤ 7 ∧ 1 ≤ h ∧ h ≤ 3 ∧ RT T a.toNat h | _, _ => False, fun xs _ => match xs with | i :: _ => (20 - i).toNat | _ => 0, ?_, ?_⟩ <;> dsimp only
  · rw [hT0]; exact ⟨by omega, by omega, by omega, by omega, by omega, by omega, RT.start⟩
  · intro i a h T hI
    obtain ⟨i0, i20, a0, a7, h1, h3, hR⟩ := hI
    obtain ⟨a, rfl⟩ : ∃ m : Nat, a = m := ⟨a.toNat, by omega⟩
    rw [Int.toNat_natCast] at hR
    have fin : ∀ f r pe ps ok : Int, (L2.cAt).rel.post [1, 32, 0, (a : Int)] [T] [f, r, pe, ps, ok] [] → ok = 1 ∧ r = h ∧ f = 1 := by
      intro f r pe ps ok hA
      have hA : [f, r, pe, ps, ok] = [capV 1 T 0 a 0, capV 1 T 0 a 1, capV 1 T 0 a 2, capV 1 T 0 a 3, b2i (capOk 1 T 0 a)] := hA.1
      simp only [List.cons.injEq, and_true] at hA
      have q := hR.at (by omega) h1
      obtain ⟨q1, q2, q3, q4, q5⟩ := hA
      exact ⟨by rw [q5, q.1]; rfl, by rw [q2, q.2.1], by rw [q1, q.2.2]⟩
    refine ⟨rfl, fun f r pe ps ok hA => ?_⟩
    have q := fin f r pe ps ok hA
    refine ⟨fun _ => ⟨fun _ z ez => ⟨by rw [ez, q.2.2]; decide, trivial⟩, fun c => absurd q.2.1.symm c⟩, fun c => absurd c (by rw [q.1]; decide)⟩)
theorem capsRights_holds_n : ((lawSpec L2.f_messuagelaw11_CapsRights [.nil]).withPre fun _ => True).Holds Tryz.prog L2.ro := holds_withPre _ capsRights_holds_n0

theorem capsRights_calls {H : Type} {enc : TypeId × Value → H} {W : World} {base : Nat} {args : Array Value} {ds : List (DataW H)} {p : List MemPlace} (hval : ∀ (j : Nat) t v, Tryz.f4.params[j]? = some t → args[j]? = some v → Value.okWide Tryz.prog W .any base t v)
    (hA : DataW.TrodAll enc Tryz.prog W 0 (fun _ => true) true Tryz.f4.params.toList args.toList ds p) (hL : laidMetH Tryz.prog laid1 W) : Calls Tryz.prog 4 args W fun e W' => e = .returned (.bool true) ∧ Go.Sx.Frame ⟨W, [], L2.ro⟩ W' := by
  rw [Tryz.params4] at hA hval
  obtain ⟨v0, d0, rfl, rfl, h0⟩ := trodAll_one hA
  rcases par_flats (base := 0) (f := 9) und43 flat3 cells3 (by decide) (hval 0 43 v0 rfl rfl) h0 with q0 | ⟨e0, q0⟩
  · exact law_calls (capsRights_holds_n) Tryz.func4 (show Tryz.f4.body = some _ from rfl) (by kernel_rfl) (.cons q0 .none) trivial (ro_of_laid hL)
  · exact law_calls (capsRights_holds) Tryz.func4 (show Tryz.f4.body = some _ from rfl) (by kernel_rfl) (.cons q0 .none) trivial (ro_of_laid hL)
set_option maxHeartbeats 1000000 in
theorem capsRights_lifted (os : Os) (started : os.Started) (H : Type) (enc : TypeId × Value → H) :
    ReturnsInHanded {} Tryz.checked os 4 .any (fun w args => (Rows.capsRightsSpec.pre enc Tryz.prog Tryz.f4 [] false w args ∧ laidMetH Tryz.prog laid1 w) ∧ sizedMet enc Tryz.prog Tryz.f4 (OpenSpec.ofChange Rows.capsRightsSpec) false w args)
      (Rows.capsRightsSpec.post enc Tryz.prog Tryz.f4 false true false false) := by
  refine returnsInHanded_of_change_and (C := Tryz.checked) (X := fun w _ => laidMetH Tryz.prog laid1 w) (fun _ _ _ hh h => h.of_heap hh) Tryz.own started (by kernel_rfl) Tryz.func4
    (ChangeSpec.witness_at (enc := enc) (C := Tryz.checked) (os := os) (X := fun w _ => laidMetH Tryz.prog laid1 w) false (laidWorld os) #[.slice none 0 0] 8 rfl (by kernel_rfl) (by kernel_rfl) (by kernel_rfl) (by kernel_rfl) (by kernel_rfl) (laidWorld_met os _)) ?_
  intro W base args ds gs before hval0 hW _ _ hL _
  have hval : ∀ (j : Nat) t v, Tryz.f4.params[j]? = some t → args[j]? = some v → Value.okWide Tryz.prog W .any base t v := hval0
  have hW' := hW
  obtain ⟨p, q, hA0, hV0, rfl, hfz, hnd⟩ := hW
  have hcall := capsRights_calls (enc := enc) hval hA0 hL
  refine Calls.mono hcall ?_
  rintro e W' ⟨rfl, hfr⟩
  exact ⟨_, rfl, post_kept Tryz.laidOut (by kernel_rfl) rfl rfl und4 hW' hfr (by
    have hg : gs = [] := by cases gs with | nil => rfl | cons g r => exact absurd hV0 (by intro h; cases h)
    subst hg
    have hA1 : DataW.TrodAll enc Tryz.prog W 0 (fun _ => true) true Tryz.f4.params.toList args.toList ds p := hA0
    rw [Tryz.params4] at hA1
    obtain ⟨v0, d0, ea, rfl, h0⟩ := trodAll_one hA1
    rfl)⟩

theorem capsRights_row : Rows.CapsRightsSaid :=
  OpenClaim.holds_of_wide 4 Tryz.f4 rfl rfl rfl rfl rfl rfl rfl ⟨rfl, rfl, rfl, rfl, rfl⟩ rfl rfl rfl rfl rfl (by kernel_rfl) Tryz.func4 (restFacts.2 _ _ _ _ _ Tryz.mayEnter Tryz.liftsFinal Tryz.make (by kernel_rfl))
    (of_decide_eq_true (by kernel_rfl)) (by unfold Func.isWrapper; rw [if_neg (of_decide_eq_false (by kernel_rfl))]; exact ⟨rfl, rfl⟩)
    (fun os started H enc _ => capsRights_lifted os started H enc)
theorem capsRights_card : Rows.CapsRightsCardSaid :=
  Claim7.holds_tied_plain_at .later [] [.handle] true (true, "2b6aa8c52f26a36866b589049fd1d65802bdae42632cc16d24d227b9428605b6") true
    capsRights_row (fun _ h => by cases h) (by kernel_rfl) (fun _ h => by cases h) capsRights_row_tie rfl ⟨rfl, rfl⟩ Tryz.mainIs rfl
    (fun f fn hf hfn => by
      obtain rfl : f = 4 := Option.some.inj ((show Tryz.prog.funcNamed "messuage/messuagelaw11.CapsRights" = some 4 by kernel_rfl).symm.trans hf) |>.symm
      obtain rfl : fn = Tryz.f4 := (Option.some.inj (Tryz.func4.symm.trans hfn)).symm
      exact ⟨by kernel_rfl, fun j t ht => by
        rw [Tryz.params4] at ht
        rcases j with _ | j
        · obtain rfl : 43 = t := by simpa using ht
          exact (show Tryz.prog.wantsStandIn 43 = false by kernel_rfl)
        · simp at ht⟩)
    (by kernel_rfl)
#print axioms capsRights_card
end Go.Proofs.YtegeplgckfpleaaGreatDoor
