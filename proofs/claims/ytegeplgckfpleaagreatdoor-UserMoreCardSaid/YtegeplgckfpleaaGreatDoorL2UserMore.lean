/- The statement messuagelaw11.UserMore of the seat: for every input the law returns true; the condition: errors.errorType is as the program lays it. -/
import Derived.Test.YtegeplgckfpleaaGreatDoorL2B
import Derived.Test.YtegeplgckfpleaaGreatDoorSxM7
import Derived.Test.YtegeplgckfpleaaGreatDoorL2W2
import Derived.Test.YtegeplgckfpleaaGreatDoorL2Vx
set_option linter.unusedVariables false
set_option linter.unusedSimpArgs false
open Go Go.Sx
namespace Go.Proofs.YtegeplgckfpleaaGreatDoor
open Go.ChangeShapes Go.WideShapes Go.RowKit
set_option maxRecDepth 100000

noncomputable def UserMore_t : Tree := .call 15 (Go.Sx.L2.yes Go.Sx.L2.f_messuagelaw11_begun).rel [] [] 0 0 (.letI (.rem (.v 0) (.c 8)) (.letI (.add (.v 4) (.c 8)) (.letI (.rem (.v 5) (.c 8)) (.letI (.rem (.v 1) (.c 3)) (.letI (.add (.v 7) (.c 3)) (.letI (.rem (.v 8) (.c 3)) (.letI (.add (.c 1) (.v 9)) (.letI (.rem (.v 2) (.c 3)) (.letI (.add (.v 11) (.c 3)) (.letI (.rem (.v 12) (.c 3)) (.letI (.add (.c 1) (.v 13)) (.letI (.rem (.v 3) (.c 4)) (.letI (.add (.v 15) (.c 4)) (.letI (.rem (.v 16) (.c 4)) (.letI (.add (.c 20) (.v 17)) (.call 16 (Go.Sx.L2.bNew).rel [] [] 0 1 (.call 17 (Go.Sx.L2.tNew).rel [] [] 0 1 (.any (.c 1) (.c 9223372036854775807) (.any (.c 2) (.c 9223372036854775807) (.call 18 (Go.Sx.L2.bFill).rel [.c (1), .v 6, .c (0), .v 10] [0] 1 1 (.call 19 (Go.Sx.L2.tInsert).rel [.v 6, .c (1), .c (0), .v 14] [1] 1 1 (.letL (.lit [.c (0), .c (0), .c (0), .c (0), .c (0), .c (0), .c (0), .c (0), .c (0), .c (0), .c (0), .c (0), .c (0), .c (0), .c (0), .c (0)]) (.letL (.lit [.c (0), .c (0), .c (0), .c (0), .c (0), .c (0), .c (0), .c (0), .c (0), .c (0), .c (0), .c (0), .c (0), .c (0), .c (0), .c (0)]) (.call 36 (Go.Sx.L2.uDo 2).rel [.v 20, .c (1), .v 18, .v 6, .c (0), .c (0), .c (0)] [2, 3, 4, 5] 6 3 (.call 23 (Go.Sx.L2.lets_ Go.Sx.L2.f_messuageref2_Lets).rel [.v 10, .v 18] [] 1 0 (.ite (.v 29) (.letI (.cmp .eql (.v 23) (.c 0)) (.ite (.v 30) (.letI (.cmp .eql (.v 27) (.c 0)) (.ite (.v 31) (.letI (.cmp .eql (.v 10) (.v 28)) (.need .neq (.v 32) (.c 0) (.done [] []))) (.fail 180))) (.fail 180))) (.call 23 (Go.Sx.L2.lets_ Go.Sx.L2.f_messuageref2_Lets).rel [.v 14, .v 18] [] 1 0 (.ite (.v 30) (.call 20 (Go.Sx.L2.bFind).rel [.c (1), .v 6] [6] 5 0 (.letI (.cmp .eql (.v 23) (.c 0)) (.ite (.v 36) (.letI (.cmp .eql (.v 27) (.c 1)) (.ite (.v 37) (.letI (.cmp .eql (.v 14) (.v 28)) (.ite (.v 38) (.ite (.v 35) (.letI (.cmp .eql (.v 25) (.v 31)) (.letI (.cmp .eql (.v 26) (.v 32)) (.letI (.cmp .eql (.v 27) (.v 33)) (.letI (.cmp .eql (.v 28) (.v 34)) (.letI (.pick (.v 42) (.c 1) (.c 0)) (.letI (.pick (.v 41) (.v 43) (.c 0)) (.letI (.pick (.v 40) (.v 44) (.c 0)) (.letI (.pick (.v 39) (.v 45) (.c 0)) (.need .neq (.v 46) (.c 0) (.done [] [])))))))))) (.fail 180)) (.fail 180))) (.fail 180))) (.fail 180)))) (.call 20 (Go.Sx.L2.bFind).rel [.c (1), .v 6] [6] 5 0 (.letI (.cmp .eql (.v 23) (.c 7)) (.ite (.v 36) (.letI (.cmp .eql (.v 25) (.c 0)) (.letI (.cmp .eql (.v 26) (.c 0)) (.letI (.cmp .eql (.v 27) (.c 0)) (.letI (.cmp .eql (.v 28) (.c 0)) (.letI (.pick (.v 40) (.c 1) (.c 0)) (.letI (.pick (.v 39) (.v 41) (.c 0)) (.letI (.pick (.v 38) (.v 42) (.c 0)) (.letI (.pick (.v 37) (.v 43) (.c 0)) (.ite (.v 44) (.letI (.not (.v 35)) (.need .neq (.v 45) (.c 0) (.done [] []))) (.fail 180)))))))))) (.fail 180))))))))))))))))))))))))))))))))
theorem UserMore_tree : (lawSpec L2.f_messuagelaw11_UserMore [.one (.i .i64), .one (.i .i64), .one (.i .i64), .one (.i .i64)]).exe Tryz.prog (withS (L2.cfgB Tryz.prog) [L2.lets_ L2.f_messuageref2_Lets, L2.tNew, L2.tInsert, L2.tRemove, L2.bNew, L2.bFind, L2.bFill, L2.bFlush, L2.uDo 2]) [] 20 200 = UserMore_t := by kernel_rfl
theorem UserMore_vc (Q : List Int → List (List Int) → Prop) (v0 v1 v2 v3 : Int) : UserMore_t.dn ⟨Q, []⟩ 4 [v3, v2, v1, v0] 0 [] = ((Go.Sx.L2.yes Go.Sx.L2.f_messuagelaw11_begun).rel.pre [] [] ∧
((Go.Sx.L2.yes Go.Sx.L2.f_messuagelaw11_begun).rel.post [] [] [] [] → ∀ v4 : Int, v4 = (v0).tmod (8 : Int) → ∀ v5 : Int, v5 = v4 + (8 : Int) → ∀ v6 : Int, v6 = (v5).tmod (8 : Int) → ∀ v7 : Int, v7 = (v1).tmod (3 : Int) → ∀ v8 : Int, v8 = v7 + (3 : Int) → ∀ v9 : Int, v9 = (v8).tmod (3 : Int) → ∀ v10 : Int, v10 = (1 : Int) + v9 → ∀ v11 : Int, v11 = (v2).tmod (3 : Int) → ∀ v12 : Int, v12 = v11 + (3 : Int) → ∀ v13 : Int, v13 = (v12).tmod (3 : Int) → ∀ v14 : Int, v14 = (1 : Int) + v13 → ∀ v15 : Int, v15 = (v3).tmod (4 : Int) → ∀ v16 : Int, v16 = v15 + (4 : Int) → ∀ v17 : Int, v17 = (v16).tmod (4 : Int) → ∀ v18 : Int, v18 = (20 : Int) + v17 → (Go.Sx.L2.bNew).rel.pre [] [] ∧
(∀ L0 : List Int, (Go.Sx.L2.bNew).rel.post [] [] [] [L0] → (Go.Sx.L2.tNew).rel.pre [] [] ∧
(∀ L1 : List Int, (Go.Sx.L2.tNew).rel.post [] [] [] [L1] → ∀ v19 : Int, (1 : Int) ≤ v19 → v19 ≤ (9223372036854775807 : Int) → ∀ v20 : Int, (2 : Int) ≤ v20 → v20 ≤ (9223372036854775807 : Int) → (Go.Sx.L2.bFill).rel.pre [(1 : Int), v6, (0 : Int), v10] [L0] ∧
(∀ v21 : Int, ∀ L2 : List Int, (Go.Sx.L2.bFill).rel.post [(1 : Int), v6, (0 : Int), v10] [L0] [v21] [L2] → (Go.Sx.L2.tInsert).rel.pre [v6, (1 : Int), (0 : Int), v14] [L1] ∧
(∀ v22 : Int, ∀ L3 : List Int, (Go.Sx.L2.tInsert).rel.post [v6, (1 : Int), (0 : Int), v14] [L1] [v22] [L3] → ∀ L4 : List Int, L4 = [(0 : Int), (0 : Int), (0 : Int), (0 : Int), (0 : Int), (0 : Int), (0 : Int), (0 : Int), (0 : Int), (0 : Int), (0 : Int), (0 : Int), (0 : Int), (0 : Int), (0 : Int), (0 : Int)] → ∀ L5 : List Int, L5 = [(0 : Int), (0 : Int), (0 : Int), (0 : Int), (0 : Int), (0 : Int), (0 : Int), (0 : Int), (0 : Int), (0 : Int), (0 : Int), (0 : Int), (0 : Int), (0 : Int), (0 : Int), (0 : Int)] → (Go.Sx.L2.uDo 2).rel.pre [v20, (1 : Int), v18, v6, (0 : Int), (0 : Int), (0 : Int)] [L2, L3, L4, L5] ∧
(∀ v23 : Int, ∀ v24 : Int, ∀ v25 : Int, ∀ v26 : Int, ∀ v27 : Int, ∀ v28 : Int, ∀ L6 : List Int, ∀ L7 : List Int, ∀ L8 : List Int, (Go.Sx.L2.uDo 2).rel.post [v20, (1 : Int), v18, v6, (0 : Int), (0 : Int), (0 : Int)] [L2, L3, L4, L5] [v23, v24, v25, v26, v27, v28] [L6, L7, L8] → (Go.Sx.L2.lets_ Go.Sx.L2.f_messuageref2_Lets).rel.pre [v10, v18] [] ∧
(∀ v29 : Int, (Go.Sx.L2.lets_ Go.Sx.L2.f_messuageref2_Lets).rel.post [v10, v18] [] [v29] [] → (v29 ≠ 0 → ((v23 = (0 : Int)) → ((v27 = (0 : Int)) → ∀ v32 : Int, v32 = b2i (v10 == v28) → (v32 ≠ (0 : Int)) ∧ Q [] []) ∧
((v27 ≠ (0 : Int)) → False)) ∧
((v23 ≠ (0 : Int)) → False)) ∧
(v29 = 0 → (Go.Sx.L2.lets_ Go.Sx.L2.f_messuageref2_Lets).rel.pre [v14, v18] [] ∧
(∀ v30 : Int, (Go.Sx.L2.lets_ Go.Sx.L2.f_messuageref2_Lets).rel.post [v14, v18] [] [v30] [] → (v30 ≠ 0 → (Go.Sx.L2.bFind).rel.pre [(1 : Int), v6] [L6] ∧
(∀ v31 : Int, ∀ v32 : Int, ∀ v33 : Int, ∀ v34 : Int, ∀ v35 : Int, (Go.Sx.L2.bFind).rel.post [(1 : Int), v6] [L6] [v31, v32, v33, v34, v35] [] → ((v23 = (0 : Int)) → ((v27 = (1 : Int)) → ((v14 = v28) → (v35 ≠ 0 → ∀ v39 : Int, v39 = b2i (v25 == v31) → ∀ v40 : Int, v40 = b2i (v26 == v32) → ∀ v41 : Int, v41 = b2i (v27 == v33) → ∀ v42 : Int, v42 = b2i (v28 == v34) → ∀ v43 : Int, v43 = (if v42 = 0 then (0 : Int) else (1 : Int)) → ∀ v44 : Int, v44 = (if v41 = 0 then (0 : Int) else v43) → ∀ v45 : Int, v45 = (if v40 = 0 then (0 : Int) else v44) → ∀ v46 : Int, v46 = (if v39 = 0 then (0 : Int) else v45) → (v46 ≠ (0 : Int)) ∧ Q [] []) ∧
(v35 = 0 → False)) ∧
((v14 ≠ v28) → False)) ∧
((v27 ≠ (1 : Int)) → False)) ∧
((v23 ≠ (0 : Int)) → False))) ∧
(v30 = 0 → (Go.Sx.L2.bFind).rel.pre [(1 : Int), v6] [L6] ∧
(∀ v31 : Int, ∀ v32 : Int, ∀ v33 : Int, ∀ v34 : Int, ∀ v35 : Int, (Go.Sx.L2.bFind).rel.post [(1 : Int), v6] [L6] [v31, v32, v33, v34, v35] [] → ((v23 = (7 : Int)) → ∀ v37 : Int, v37 = b2i (v25 == (0 : Int)) → ∀ v38 : Int, v38 = b2i (v26 == (0 : Int)) → ∀ v39 : Int, v39 = b2i (v27 == (0 : Int)) → ∀ v40 : Int, v40 = b2i (v28 == (0 : Int)) → ∀ v41 : Int, v41 = (if v40 = 0 then (0 : Int) else (1 : Int)) → ∀ v42 : Int, v42 = (if v39 = 0 then (0 : Int) else v41) → ∀ v43 : Int, v43 = (if v38 = 0 then (0 : Int) else v42) → ∀ v44 : Int, v44 = (if v37 = 0 then (0 : Int) else v43) → (v44 ≠ 0 → ∀ v45 : Int, v45 = b2i (v35 == 0) → (v45 ≠ (0 : Int)) ∧ Q [] []) ∧
(v44 = 0 → False)) ∧
((v23 ≠ (7 : Int)) → False))))))))))))) := by kernel_rfl
set_option maxHeartbeats 4000000 in
theorem userMore_holds0 : (lawSpec L2.f_messuagelaw11_UserMore [.one (.i .i64), .one (.i .i64), .one (.i .i64), .one (.i .i64)]).Holds Tryz.prog L2.ro := FSpec.holdsV (cfg := withS (L2.cfgB Tryz.prog) [L2.lets_ L2.f_messuageref2_Lets, L2.tNew, L2.tInsert, L2.tRemove, L2.bNew, L2.bFind, L2.bFill, L2.bFlush, L2.uDo 2]) [] 20 200 (withS_ok cfgB_ok ⟨rLets_holds, tNew_holds, tInsert_holds, tRemove_holds, bNew_holds, bFind_holds, bFill_holds, bFlush_holds, uDoM2_holds, trivial⟩) mixed (t := UserMore_t) UserMore_tree (by
  show ∀ (v0 v1 v2 v3 : Int) , _
  intro v0 v1 v2 v3  hp hr hl
  replace hr : ((-9223372036854775808 : Int) ≤ v0 ∧ v0 ≤ (9223372036854775807 : Int)) ∧ ((-9223372036854775808 : Int) ≤ v1 ∧ v1 ≤ (9223372036854775807 : Int)) ∧ ((-9223372036854775808 : Int) ≤ v2 ∧ v2 ≤ (9223372036854775807 : Int)) ∧ ((-9223372036854775808 : Int) ≤ v3 ∧ v3 ≤ (9223372036854775807 : Int)) ∧ True := hr
  replace hp : True := hp
  show UserMore_t.dn ⟨_, []⟩ 4 [v3, v2, v1, v0] 0 []
  rw [UserMore_vc]
  show ((L2.yes L2.f_messuagelaw11_begun).rel.pre [] [] ∧ _)
  refine ⟨trivial, fun _ => ?_⟩
  intro v4 e4 v5 e5 v6 e6 v7 e7 v8 e8 v9 e9 v10 e10 v11 e11 v12 e12 v13 e13 v14 e14 v15 e15 v16 e16 v17 e17 v18 e18
  have r4 := tmodR (x := v0) (m := 8) (by omega)
  have r6 := tmodP (x := v5) (m := 8) (by omega) (by omega)
  have r7 := tmodR (x := v1) (m := 3) (by omega)
  have r9 := tmodP (x := v8) (m := 3) (by omega) (by omega)
  have r11 := tmodR (x := v2) (m := 3) (by omega)
  have r13 := tmodP (x := v12) (m := 3) (by omega) (by omega)
  have r15 := tmodR (x := v3) (m := 4) (by omega)
  have r17 := tmodP (x := v16) (m := 4) (by omega) (by omega)
  rw [← e6] at r6
  rw [← e9] at r9
  rw [← e13] at r13
  rw [← e17] at r17
  clear r4 r7 r11 r15 e4 e5 e6 e7 e8 e9 e11 e12 e13 e15 e16 e17 hr hp hl
  obtain ⟨p, rfl⟩ : ∃ m : Nat, v6 = m := ⟨v6.toNat, by omega⟩
  obtain ⟨r, rfl⟩ : ∃ m : Nat, v9 = m := ⟨v9.toNat, by omega⟩
  obtain ⟨s, rfl⟩ : ∃ m : Nat, v13 = m := ⟨v13.toNat, by omega⟩
  obtain ⟨k, rfl⟩ : ∃ m : Nat, v17 = m := ⟨v17.toNat, by omega⟩
  obtain rfl : v10 = (r : Int) + 1 := by omega
  obtain rfl : v14 = (s : Int) + 1 := by omega
  obtain rfl : v18 = (k : Int) + 20 := by omega
  have K := mr_all p (by omega) r (by omega) s (by omega) k (by omega)
  unfold mrOk at K
  dsimp only at K
  refine ⟨trivial, fun B0 hB0 => ⟨trivial, fun T0 hT0 => ?_⟩⟩
  have hB0 : B0 = b0 := by
    have : [B0] = [clearB (List.replicate 41 (0 : Int))] := hB0.2
    exact (List.cons.inj this).1
  have hT0 : T0 = t0 := by
    have : [T0] = [List.replicate 24 (0 : Int)] := hT0.2
    exact (List.cons.inj this).1
  intro c1 hc1 hc2 c2 hc3 hc4
  refine ⟨trivial, fun fb B hB => ⟨trivial, fun ie T hT => ?_⟩⟩
  have hB : B = mrB p r := by
    have : [B] = [fillB B0 1 p 0 ((r : Int) + 1)] := hB.2
    rw [hB0] at this; exact (List.cons.inj this).1
  have hT : T = mrT p s := by
    have : [T] = [insL T0 p 1 0 ((s : Int) + 1)] := hT.2
    rw [hT0] at this; exact (List.cons.inj this).1
  subst hB
  subst hT
  intro M0 eM0 M1 eM1
  have l0 : M0.length = 16 := by rw [eM0]; rfl
  have l1 : M1.length = 16 := by rw [eM1]; rfl
  clear eM0 eM1
  refine ⟨?_, ?_⟩
  · intro j hj
    have : j = 0 ∨ j = 1 := by omega
    rcases this with rfl | rfl
    · exact l0
    · exact l1
  intro e v w0 w1 w2 w3 B' N0 N1 h
  obtain ⟨h1, h2, h3, h4, h5, h6, h7, _, _⟩ := udo2_post h
  have hE : doE 1 ((k : Int) + 20) p 0 0 0 = 0 := doE_fine (by omega) (by omega) (by omega) (by omega) (by omega) (by omega)
  refine ⟨trivial, fun z hz => ?_⟩
  have hz : z = b2i (letsB ((r : Int) + 1) ((k : Int) + 20)) := by
    have : [z] = [b2i (letsB ((r : Int) + 1) ((k : Int) + 20))] := hz
    exact (List.cons.inj this).1
  cases lr : letsB ((r : Int) + 1) ((k : Int) + 20) with
  | true =>
    rw [lr] at hz K
    simp only [if_true, Bool.and_eq_true, decide_eq_true_eq] at K
    obtain ⟨k1, k2, k3⟩ := K
    have F := do_ok (B := mrB p r) (T := mrT p s) (Ls := [M0, M1]) (K := 2) hE k1
    rw [F.1] at h1
    rw [F.2.2.1, k2] at h5
    rw [F.2.2.1, k3] at h6
    refine ⟨fun _ => ⟨fun _ => ⟨fun _ => ?_, fun c => absurd h5 c⟩, fun c => absurd h1 c⟩, fun c => by rw [hz] at c; cases c⟩
    intro y ey
    exact ⟨by rw [ey, h6]; simp [b2i], trivial⟩
  | false =>
    rw [lr] at hz K
    simp only [Bool.false_eq_true, if_false] at K
    refine ⟨fun c => by rw [hz] at c; exact absurd rfl c, fun _ => ⟨trivial, fun y hy => ?_⟩⟩
    have hy : y = b2i (letsB ((s : Int) + 1) ((k : Int) + 20)) := by
      have : [y] = [b2i (letsB ((s : Int) + 1) ((k : Int) + 20))] := hy
      exact (List.cons.inj this).1
    cases ls : letsB ((s : Int) + 1) ((k : Int) + 20) with
    | true =>
      rw [ls] at hy K
      simp only [if_true, Bool.and_eq_true, decide_eq_true_eq] at K
      obtain ⟨k1, ⟨a0, a1, a2, a3⟩, k3, g0, g1, g2, g3⟩ := K
      have F := do_ok (B := mrB p r) (T := mrT p s) (Ls := [M0, M1]) (K := 2) hE k1
      rw [F.1] at h1
      rw [F.2.2.1, a0] at h3
      rw [F.2.2.1, a1] at h4
      rw [F.2.2.1, a2] at h5
      rw [F.2.2.1, a3] at h6
      rw [F.2.2.2.1] at h7
      refine ⟨fun _ => ⟨trivial, ?_⟩, fun c => by rw [hy] at c; cases c⟩
      intro x0 x1 x2 x3 has hx
      have hx : [x0, x1, x2, x3, has] = [findB B' 1 p 0, findB B' 1 p 1, findB B' 1 p 2, findB B' 1 p 3, b2i (decide (atB B' 1 p ≠ -1))] := hx
      simp only [List.cons.injEq, and_true] at hx
      rw [h7, g0, g1, g2, g3, decide_eq_true k3] at hx
      obtain ⟨q0, q1, q2, q3, q4⟩ := hx
      refine ⟨fun _ => ⟨fun _ => ⟨fun _ => ⟨fun _ => ?_, fun c => by rw [q4] at c; cases c⟩, fun c => absurd h6.symm c⟩, fun c => absurd h5 c⟩, fun c => absurd h1 c⟩
      intro y0 f0 y1 f1 y2 f2 y3 f3 z3 e3 z2 e2 z1 e1 z0 e0
      exact ⟨by rw [e0, e1, e2, e3, f0, f1, f2, f3, h3, h4, h5, h6, q0, q1, q2, q3]; simp [b2i], trivial⟩
    | false =>
      rw [ls] at hy K
      simp only [Bool.false_eq_true, if_false, Bool.and_eq_true, decide_eq_true_eq, Bool.not_eq_true'] at K
      obtain ⟨k1, k2⟩ := K
      have F := do_fault (B := mrB p r) (T := mrT p s) (Ls := [M0, M1]) (K := 2) hE k1
      rw [F.1] at h1
      rw [F.2.2.1] at h3 h4 h5 h6
      rw [F.2.2.2.1] at h7
      refine ⟨fun c => by rw [hy] at c; exact absurd rfl c, fun _ => ⟨trivial, ?_⟩⟩
      intro x0 x1 x2 x3 has hx
      have hx : [x0, x1, x2, x3, has] = [findB B' 1 p 0, findB B' 1 p 1, findB B' 1 p 2, findB B' 1 p 3, b2i (decide (atB B' 1 p ≠ -1))] := hx
      simp only [List.cons.injEq, and_true] at hx
      have q4 : has = 0 := by rw [hx.2.2.2.2, h7, decide_eq_false (fun c => c k2)]; rfl
      refine ⟨fun _ => ?_, fun c => absurd h1 c⟩
      intro y0 f0 y1 f1 y2 f2 y3 f3 z3 e3 z2 e2 z1 e1 z0 e0
      have hz0 : z0 = 1 := by rw [e0, e1, e2, e3, f0, f1, f2, f3, h3, h4, h5, h6]; rfl
      refine ⟨fun _ => ?_, fun c => by omega⟩
      intro u eu
      exact ⟨by rw [eu, q4]; decide, trivial⟩)
theorem userMore_holds : ((lawSpec L2.f_messuagelaw11_UserMore [.one (.i .i64), .one (.i .i64), .one (.i .i64), .one (.i .i64)]).withPre fun _ => True).Holds Tryz.prog L2.ro := holds_withPre _ userMore_holds0

theorem userMore_calls {H : Type} {enc : TypeId × Value → H} {W : World} {base : Nat} {args : Array Value} {ds : List (DataW H)} {p : List MemPlace} (hval : ∀ (j : Nat) t v, Tryz.f7.params[j]? = some t → args[j]? = some v → Value.okWide Tryz.prog W .any base t v)
    (hA : DataW.TrodAll enc Tryz.prog W 0 (fun _ => true) true Tryz.f7.params.toList args.toList ds p) (hL : laidMetH Tryz.prog laid1 W) : Calls Tryz.prog 7 args W fun e W' => e = .returned (.bool true) ∧ Go.Sx.Frame ⟨W, [], L2.ro⟩ W' := by
  rw [Tryz.params7] at hA hval
  obtain ⟨v0, v1, v2, v3, d0, d1, d2, d3, p0, p1, p2, p3, rfl, rfl, rfl, h0, h1, h2, h3⟩ := trodAll_four hA
  obtain ⟨n0, q0⟩ := par_int (base := 0) und3 (hval 0 3 v0 rfl rfl) h0
  obtain ⟨n1, q1⟩ := par_int (base := 0) und3 (hval 1 3 v1 rfl rfl) h1
  obtain ⟨n2, q2⟩ := par_int (base := 0) und3 (hval 2 3 v2 rfl rfl) h2
  obtain ⟨n3, q3⟩ := par_int (base := 0) und3 (hval 3 3 v3 rfl rfl) h3
  exact law_calls (userMore_holds) Tryz.func7 (show Tryz.f7.body = some _ from rfl) (by kernel_rfl) (.cons q0 (.cons q1 (.cons q2 (.cons q3 .none)))) trivial (ro_of_laid hL)
set_option maxHeartbeats 1000000 in
theorem userMore_lifted (os : Os) (started : os.Started) (H : Type) (enc : TypeId × Value → H) :
    ReturnsInHanded {} Tryz.checked os 7 .any (fun w args => (Rows.userMoreSpec.pre enc Tryz.prog Tryz.f7 [] false w args ∧ laidMetH Tryz.prog laid1 w) ∧ sizedMet enc Tryz.prog Tryz.f7 (OpenSpec.ofChange Rows.userMoreSpec) false w args)
      (Rows.userMoreSpec.post enc Tryz.prog Tryz.f7 false true false false) := by
  refine returnsInHanded_of_change_and (C := Tryz.checked) (X := fun w _ => laidMetH Tryz.prog laid1 w) (fun _ _ _ hh h => h.of_heap hh) Tryz.own started (by kernel_rfl) Tryz.func7
    (ChangeSpec.witness_at (enc := enc) (C := Tryz.checked) (os := os) (X := fun w _ => laidMetH Tryz.prog laid1 w) false (laidWorld os) #[.int .i64 0, .int .i64 0, .int .i64 0, .int .i64 0] 8 rfl (by kernel_rfl) (by kernel_rfl) (by kernel_rfl) (by kernel_rfl) (by kernel_rfl) (laidWorld_met os _)) ?_
  intro W base args ds gs before hval0 hW _ _ hL _
  have hval : ∀ (j : Nat) t v, Tryz.f7.params[j]? = some t → args[j]? = some v → Value.okWide Tryz.prog W .any base t v := hval0
  have hW' := hW
  obtain ⟨p, q, hA0, hV0, rfl, hfz, hnd⟩ := hW
  have hcall := userMore_calls (enc := enc) hval hA0 hL
  refine Calls.mono hcall ?_
  rintro e W' ⟨rfl, hfr⟩
  exact ⟨_, rfl, post_kept Tryz.laidOut (by kernel_rfl) rfl rfl und4 hW' hfr (by
    have hg : gs = [] := by cases gs with | nil => rfl | cons g r => exact absurd hV0 (by intro h; cases h)
    subst hg
    have hA1 : DataW.TrodAll enc Tryz.prog W 0 (fun _ => true) true Tryz.f7.params.toList args.toList ds p := hA0
    rw [Tryz.params7] at hA1
    obtain ⟨v0, v1, v2, v3, d0, d1, d2, d3, p0, p1, p2, p3, ea, rfl, ec, h0, h1, h2, h3⟩ := trodAll_four hA1
    rfl)⟩

theorem userMore_row : Rows.UserMoreSaid :=
  OpenClaim.holds_of_wide 7 Tryz.f7 rfl rfl rfl rfl rfl rfl rfl ⟨rfl, rfl, rfl, rfl, rfl⟩ rfl rfl rfl rfl rfl (by kernel_rfl) Tryz.func7 (restFacts.2 _ _ _ _ _ Tryz.mayEnter Tryz.liftsFinal Tryz.make (by kernel_rfl))
    (of_decide_eq_true (by kernel_rfl)) (by unfold Func.isWrapper; rw [if_neg (of_decide_eq_false (by kernel_rfl))]; exact ⟨rfl, rfl⟩)
    (fun os started H enc _ => userMore_lifted os started H enc)
theorem userMore_card : Rows.UserMoreCardSaid :=
  Claim7.holds_tied_plain_at .later [] [.handle] true (true, "2b6aa8c52f26a36866b589049fd1d65802bdae42632cc16d24d227b9428605b6") true
    userMore_row (fun _ h => by cases h) (by kernel_rfl) (fun _ h => by cases h) userMore_row_tie rfl ⟨rfl, rfl⟩ Tryz.mainIs rfl
    (fun f fn hf hfn => by
      obtain rfl : f = 7 := Option.some.inj ((show Tryz.prog.funcNamed "messuage/messuagelaw11.UserMore" = some 7 by kernel_rfl).symm.trans hf) |>.symm
      obtain rfl : fn = Tryz.f7 := (Option.some.inj (Tryz.func7.symm.trans hfn)).symm
      exact ⟨by kernel_rfl, fun j t ht => by
        rw [Tryz.params7] at ht
        rcases j with _ | _ | _ | _ | j
        · obtain rfl : 3 = t := by simpa using ht
          exact (show Tryz.prog.wantsStandIn 3 = false by kernel_rfl)
        · obtain rfl : 3 = t := by simpa using ht
          exact (show Tryz.prog.wantsStandIn 3 = false by kernel_rfl)
        · obtain rfl : 3 = t := by simpa using ht
          exact (show Tryz.prog.wantsStandIn 3 = false by kernel_rfl)
        · obtain rfl : 3 = t := by simpa using ht
          exact (show Tryz.prog.wantsStandIn 3 = false by kernel_rfl)
        · simp at ht⟩)
    (by kernel_rfl)
#print axioms userMore_card
end Go.Proofs.YtegeplgckfpleaaGreatDoor
