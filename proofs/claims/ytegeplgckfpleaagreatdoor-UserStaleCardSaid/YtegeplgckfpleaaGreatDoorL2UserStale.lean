/- The statement messuagelaw11.UserStale of the seat: for every input the law returns true; the condition: errors.errorType is as the program lays it. -/
import Derived.Test.YtegeplgckfpleaaGreatDoorL2B
import Derived.Test.YtegeplgckfpleaaGreatDoorSxM7
import Derived.Test.YtegeplgckfpleaaGreatDoorL2W3
import Derived.Test.YtegeplgckfpleaaGreatDoorL2Vx
set_option linter.unusedVariables false
set_option linter.unusedSimpArgs false
open Go Go.Sx
namespace Go.Proofs.YtegeplgckfpleaaGreatDoor
open Go.ChangeShapes Go.WideShapes Go.RowKit
set_option maxRecDepth 100000

noncomputable def UserStale_t : Tree := .call 15 (Go.Sx.L2.yes Go.Sx.L2.f_messuagelaw11_begun).rel [] [] 0 0 (.letI (.rem (.v 0) (.c 4)) (.letI (.add (.v 4) (.c 4)) (.letI (.rem (.v 5) (.c 4)) (.letI (.rem (.v 1) (.c 8)) (.letI (.add (.v 7) (.c 8)) (.letI (.rem (.v 8) (.c 8)) (.letI (.rem (.v 2) (.c 16)) (.letI (.add (.v 10) (.c 16)) (.letI (.rem (.v 11) (.c 16)) (.call 16 (Go.Sx.L2.bNew).rel [] [] 0 1 (.call 17 (Go.Sx.L2.tNew).rel [] [] 0 1 (.any (.c 1) (.c 9223372036854775807) (.any (.c 2) (.c 9223372036854775807) (.any (.c 3) (.c 9223372036854775807) (.call 19 (Go.Sx.L2.tInsert).rel [.v 9, .c (2), .c (1), .c (3)] [1] 1 1 (.letI (.cmp .neq (.v 16) (.c 0)) (.ite (.v 17) (.fail 180) (.letL (.lit [.c (0), .c (0), .c (0), .c (0), .c (0), .c (0), .c (0), .c (0), .c (0), .c (0), .c (0), .c (0), .c (0), .c (0), .c (0), .c (0)]) (.letL (.lit [.c (0), .c (0), .c (0), .c (0), .c (0), .c (0), .c (0), .c (0), .c (0), .c (0), .c (0), .c (0), .c (0), .c (0), .c (0), .c (0)]) (.letL (.lit [.c (0), .c (0), .c (0), .c (0), .c (0), .c (0), .c (0), .c (0), .c (0), .c (0), .c (0), .c (0), .c (0), .c (0), .c (0), .c (0)]) (.call 36 (Go.Sx.L2.uDo 3).rel [.v 15, .v 6, .c (21), .v 9, .v 12, .v 3, .c (0)] [0, 2, 3, 4, 5] 6 4 (.call 37 (Go.Sx.L2.tRemove).rel [.v 9] [2] 4 1 (.call 36 (Go.Sx.L2.uDo 3).rel [.v 15, .v 6, .c (20), .v 9, .v 12, .c (0), .c (0)] [6, 10, 7, 8, 9] 6 4 (.letI (.add (.v 6) (.c 1)) (.letI (.rem (.v 34) (.c 4)) (.call 36 (Go.Sx.L2.uDo 3).rel [.v 15, .v 35, .c (20), .v 9, .v 12, .c (0), .c (0)] [11, 10, 12, 13, 14] 6 4 (.call 38 (Go.Sx.L2.bFlush).rel [.v 6, .v 9] [15] 1 1 (.call 36 (Go.Sx.L2.uDo 3).rel [.v 15, .v 6, .c (20), .v 9, .v 12, .c (0), .c (0)] [19, 10, 16, 17, 18] 6 4 (.letI (.cmp .eql (.v 18) (.c 0)) (.ite (.v 49) (.letI (.cmp .eql (.v 22) (.c 2)) (.ite (.v 50) (.letI (.cmp .eql (.v 28) (.c 0)) (.letI (.cmp .eql (.v 3) (.v 29)) (.letI (.pick (.v 52) (.c 1) (.c 0)) (.letI (.pick (.v 51) (.v 53) (.c 0)) (.ite (.v 54) (.letI (.cmp .eql (.v 20) (.v 30)) (.letI (.cmp .eql (.v 21) (.v 31)) (.letI (.cmp .eql (.v 22) (.v 32)) (.letI (.cmp .eql (.v 23) (.v 33)) (.letI (.pick (.v 58) (.c 1) (.c 0)) (.letI (.pick (.v 57) (.v 59) (.c 0)) (.letI (.pick (.v 56) (.v 60) (.c 0)) (.letI (.pick (.v 55) (.v 61) (.c 0)) (.ite (.v 62) (.letI (.cmp .eql (.v 36) (.c 7)) (.ite (.v 63) (.letI (.cmp .eql (.v 43) (.c 7)) (.ite (.v 64) (.letI (.cmp .eql (.v 45) (.c 0)) (.letI (.cmp .eql (.v 46) (.c 0)) (.letI (.cmp .eql (.v 47) (.c 0)) (.letI (.cmp .eql (.v 48) (.c 0)) (.letI (.pick (.v 68) (.c 1) (.c 0)) (.letI (.pick (.v 67) (.v 69) (.c 0)) (.letI (.pick (.v 66) (.v 70) (.c 0)) (.letI (.pick (.v 65) (.v 71) (.c 0)) (.need .neq (.v 72) (.c 0) (.done [] [])))))))))) (.fail 180))) (.fail 180))) (.fail 180)))))))))) (.fail 180)))))) (.fail 180))) (.fail 180)))))))))))))))))))))))))))))))
theorem UserStale_tree : (lawSpec L2.f_messuagelaw11_UserStale [.one (.i .i64), .one (.i .i64), .one (.i .i64), .one (.i .u64)]).exe Tryz.prog (withS (L2.cfgB Tryz.prog) [L2.lets_ L2.f_messuageref2_Lets, L2.tNew, L2.tInsert, L2.tRemove, L2.bNew, L2.bFind, L2.bFill, L2.bFlush, L2.uDo 3]) [] 20 200 = UserStale_t := by kernel_rfl
theorem UserStale_vc (Q : List Int → List (List Int) → Prop) (v0 v1 v2 v3 : Int) : UserStale_t.dn ⟨Q, []⟩ 4 [v3, v2, v1, v0] 0 [] = ((Go.Sx.L2.yes Go.Sx.L2.f_messuagelaw11_begun).rel.pre [] [] ∧
((Go.Sx.L2.yes Go.Sx.L2.f_messuagelaw11_begun).rel.post [] [] [] [] → ∀ v4 : Int, v4 = (v0).tmod (4 : Int) → ∀ v5 : Int, v5 = v4 + (4 : Int) → ∀ v6 : Int, v6 = (v5).tmod (4 : Int) → ∀ v7 : Int, v7 = (v1).tmod (8 : Int) → ∀ v8 : Int, v8 = v7 + (8 : Int) → ∀ v9 : Int, v9 = (v8).tmod (8 : Int) → ∀ v10 : Int, v10 = (v2).tmod (16 : Int) → ∀ v11 : Int, v11 = v10 + (16 : Int) → ∀ v12 : Int, v12 = (v11).tmod (16 : Int) → (Go.Sx.L2.bNew).rel.pre [] [] ∧
(∀ L0 : List Int, (Go.Sx.L2.bNew).rel.post [] [] [] [L0] → (Go.Sx.L2.tNew).rel.pre [] [] ∧
(∀ L1 : List Int, (Go.Sx.L2.tNew).rel.post [] [] [] [L1] → ∀ v13 : Int, (1 : Int) ≤ v13 → v13 ≤ (9223372036854775807 : Int) → ∀ v14 : Int, (2 : Int) ≤ v14 → v14 ≤ (9223372036854775807 : Int) → ∀ v15 : Int, (3 : Int) ≤ v15 → v15 ≤ (9223372036854775807 : Int) → (Go.Sx.L2.tInsert).rel.pre [v9, (2 : Int), (1 : Int), (3 : Int)] [L1] ∧
(∀ v16 : Int, ∀ L2 : List Int, (Go.Sx.L2.tInsert).rel.post [v9, (2 : Int), (1 : Int), (3 : Int)] [L1] [v16] [L2] → ((v16 ≠ (0 : Int)) → False) ∧
((v16 = (0 : Int)) → ∀ L3 : List Int, L3 = [(0 : Int), (0 : Int), (0 : Int), (0 : Int), (0 : Int), (0 : Int), (0 : Int), (0 : Int), (0 : Int), (0 : Int), (0 : Int), (0 : Int), (0 : Int), (0 : Int), (0 : Int), (0 : Int)] → ∀ L4 : List Int, L4 = [(0 : Int), (0 : Int), (0 : Int), (0 : Int), (0 : Int), (0 : Int), (0 : Int), (0 : Int), (0 : Int), (0 : Int), (0 : Int), (0 : Int), (0 : Int), (0 : Int), (0 : Int), (0 : Int)] → ∀ L5 : List Int, L5 = [(0 : Int), (0 : Int), (0 : Int), (0 : Int), (0 : Int), (0 : Int), (0 : Int), (0 : Int), (0 : Int), (0 : Int), (0 : Int), (0 : Int), (0 : Int), (0 : Int), (0 : Int), (0 : Int)] → (Go.Sx.L2.uDo 3).rel.pre [v15, v6, (21 : Int), v9, v12, v3, (0 : Int)] [L0, L2, L3, L4, L5] ∧
(∀ v18 : Int, ∀ v19 : Int, ∀ v20 : Int, ∀ v21 : Int, ∀ v22 : Int, ∀ v23 : Int, ∀ L6 : List Int, ∀ L7 : List Int, ∀ L8 : List Int, ∀ L9 : List Int, (Go.Sx.L2.uDo 3).rel.post [v15, v6, (21 : Int), v9, v12, v3, (0 : Int)] [L0, L2, L3, L4, L5] [v18, v19, v20, v21, v22, v23] [L6, L7, L8, L9] → (Go.Sx.L2.tRemove).rel.pre [v9] [L2] ∧
(∀ v24 : Int, ∀ v25 : Int, ∀ v26 : Int, ∀ v27 : Int, ∀ L10 : List Int, (Go.Sx.L2.tRemove).rel.post [v9] [L2] [v24, v25, v26, v27] [L10] → (Go.Sx.L2.uDo 3).rel.pre [v15, v6, (20 : Int), v9, v12, (0 : Int), (0 : Int)] [L6, L10, L7, L8, L9] ∧
(∀ v28 : Int, ∀ v29 : Int, ∀ v30 : Int, ∀ v31 : Int, ∀ v32 : Int, ∀ v33 : Int, ∀ L11 : List Int, ∀ L12 : List Int, ∀ L13 : List Int, ∀ L14 : List Int, (Go.Sx.L2.uDo 3).rel.post [v15, v6, (20 : Int), v9, v12, (0 : Int), (0 : Int)] [L6, L10, L7, L8, L9] [v28, v29, v30, v31, v32, v33] [L11, L12, L13, L14] → ∀ v34 : Int, v34 = v6 + (1 : Int) → ∀ v35 : Int, v35 = (v34).tmod (4 : Int) → (Go.Sx.L2.uDo 3).rel.pre [v15, v35, (20 : Int), v9, v12, (0 : Int), (0 : Int)] [L11, L10, L12, L13, L14] ∧
(∀ v36 : Int, ∀ v37 : Int, ∀ v38 : Int, ∀ v39 : Int, ∀ v40 : Int, ∀ v41 : Int, ∀ L15 : List Int, ∀ L16 : List Int, ∀ L17 : List Int, ∀ L18 : List Int, (Go.Sx.L2.uDo 3).rel.post [v15, v35, (20 : Int), v9, v12, (0 : Int), (0 : Int)] [L11, L10, L12, L13, L14] [v36, v37, v38, v39, v40, v41] [L15, L16, L17, L18] → (Go.Sx.L2.bFlush).rel.pre [v6, v9] [L15] ∧
(∀ v42 : Int, ∀ L19 : List Int, (Go.Sx.L2.bFlush).rel.post [v6, v9] [L15] [v42] [L19] → (Go.Sx.L2.uDo 3).rel.pre [v15, v6, (20 : Int), v9, v12, (0 : Int), (0 : Int)] [L19, L10, L16, L17, L18] ∧
(∀ v43 : Int, ∀ v44 : Int, ∀ v45 : Int, ∀ v46 : Int, ∀ v47 : Int, ∀ v48 : Int, ∀ L20 : List Int, ∀ L21 : List Int, ∀ L22 : List Int, ∀ L23 : List Int, (Go.Sx.L2.uDo 3).rel.post [v15, v6, (20 : Int), v9, v12, (0 : Int), (0 : Int)] [L19, L10, L16, L17, L18] [v43, v44, v45, v46, v47, v48] [L20, L21, L22, L23] → ((v18 = (0 : Int)) → ((v22 = (2 : Int)) → ∀ v51 : Int, v51 = b2i (v28 == (0 : Int)) → ∀ v52 : Int, v52 = b2i (v3 == v29) → ∀ v53 : Int, v53 = (if v52 = 0 then (0 : Int) else (1 : Int)) → ∀ v54 : Int, v54 = (if v51 = 0 then (0 : Int) else v53) → (v54 ≠ 0 → ∀ v55 : Int, v55 = b2i (v20 == v30) → ∀ v56 : Int, v56 = b2i (v21 == v31) → ∀ v57 : Int, v57 = b2i (v22 == v32) → ∀ v58 : Int, v58 = b2i (v23 == v33) → ∀ v59 : Int, v59 = (if v58 = 0 then (0 : Int) else (1 : Int)) → ∀ v60 : Int, v60 = (if v57 = 0 then (0 : Int) else v59) → ∀ v61 : Int, v61 = (if v56 = 0 then (0 : Int) else v60) → ∀ v62 : Int, v62 = (if v55 = 0 then (0 : Int) else v61) → (v62 ≠ 0 → ((v36 = (7 : Int)) → ((v43 = (7 : Int)) → ∀ v65 : Int, v65 = b2i (v45 == (0 : Int)) → ∀ v66 : Int, v66 = b2i (v46 == (0 : Int)) → ∀ v67 : Int, v67 = b2i (v47 == (0 : Int)) → ∀ v68 : Int, v68 = b2i (v48 == (0 : Int)) → ∀ v69 : Int, v69 = (if v68 = 0 then (0 : Int) else (1 : Int)) → ∀ v70 : Int, v70 = (if v67 = 0 then (0 : Int) else v69) → ∀ v71 : Int, v71 = (if v66 = 0 then (0 : Int) else v70) → ∀ v72 : Int, v72 = (if v65 = 0 then (0 : Int) else v71) → (v72 ≠ (0 : Int)) ∧ Q [] []) ∧
((v43 ≠ (7 : Int)) → False)) ∧
((v36 ≠ (7 : Int)) → False)) ∧
(v62 = 0 → False)) ∧
(v54 = 0 → False)) ∧
((v22 ≠ (2 : Int)) → False)) ∧
((v18 ≠ (0 : Int)) → False))))))))))))) := by kernel_rfl
set_option maxHeartbeats 4000000 in
theorem userStale_holds0 : (lawSpec L2.f_messuagelaw11_UserStale [.one (.i .i64), .one (.i .i64), .one (.i .i64), .one (.i .u64)]).Holds Tryz.prog L2.ro := FSpec.holdsV (cfg := withS (L2.cfgB Tryz.prog) [L2.lets_ L2.f_messuageref2_Lets, L2.tNew, L2.tInsert, L2.tRemove, L2.bNew, L2.bFind, L2.bFill, L2.bFlush, L2.uDo 3]) [] 20 200 (withS_ok cfgB_ok ⟨rLets_holds, tNew_holds, tInsert_holds, tRemove_holds, bNew_holds, bFind_holds, bFill_holds, bFlush_holds, uDoM3_holds, trivial⟩) mixed (t := UserStale_t) UserStale_tree (by
  show ∀ (v0 v1 v2 v3 : Int) , _
  intro v0 v1 v2 v3  hp hr hl
  replace hr : ((-9223372036854775808 : Int) ≤ v0 ∧ v0 ≤ (9223372036854775807 : Int)) ∧ ((-9223372036854775808 : Int) ≤ v1 ∧ v1 ≤ (9223372036854775807 : Int)) ∧ ((-9223372036854775808 : Int) ≤ v2 ∧ v2 ≤ (9223372036854775807 : Int)) ∧ ((0 : Int) ≤ v3 ∧ v3 ≤ (18446744073709551615 : Int)) ∧ True := hr
  replace hp : True := hp
  show UserStale_t.dn ⟨_, []⟩ 4 [v3, v2, v1, v0] 0 []
  rw [UserStale_vc]
  show ((L2.yes L2.f_messuagelaw11_begun).rel.pre [] [] ∧ _)
  refine ⟨trivial, fun _ => ?_⟩
  intro v4 e4 v5 e5 v6 e6 v7 e7 v8 e8 v9 e9 v10 e10 v11 e11 v12 e12
  have r4 := tmodR (x := v0) (m := 4) (by omega)
  have r6 := tmodP (x := v5) (m := 4) (by omega) (by omega)
  have r7 := tmodR (x := v1) (m := 8) (by omega)
  have r9 := tmodP (x := v8) (m := 8) (by omega) (by omega)
  have r10 := tmodR (x := v2) (m := 16) (by omega)
  have r12 := tmodP (x := v11) (m := 16) (by omega) (by omega)
  rw [← e6] at r6
  rw [← e9] at r9
  rw [← e12] at r12
  clear r4 r7 r10 e4 e5 e6 e7 e8 e9 e10 e11 e12 hr hp hl
  obtain ⟨e, rfl⟩ : ∃ m : Nat, v6 = m := ⟨v6.toNat, by omega⟩
  obtain ⟨p, rfl⟩ : ∃ m : Nat, v9 = m := ⟨v9.toNat, by omega⟩
  obtain ⟨a, rfl⟩ : ∃ m : Nat, v12 = m := ⟨v12.toNat, by omega⟩
  have K := st_st (e := e) (p := p) (by omega) (by omega)
  refine ⟨trivial, fun B0 hB0 => ⟨trivial, fun T0 hT0 => ?_⟩⟩
  have hB0 : B0 = b0 := by
    have : [B0] = [clearB (List.replicate 41 (0 : Int))] := hB0.2
    exact (List.cons.inj this).1
  have hT0 : T0 = t0 := by
    have : [T0] = [List.replicate 24 (0 : Int)] := hT0.2
    exact (List.cons.inj this).1
  intro c1 _ _ c2 _ _ c3 _ _
  refine ⟨trivial, fun ie T hT => ?_⟩
  have hT : ie = insE T0 p 2 1 3 ∧ T = insL T0 p 2 1 3 := by
    have : [ie] = [insE T0 p 2 1 3] ∧ [T] = [insL T0 p 2 1 3] := hT
    exact ⟨(List.cons.inj this.1).1, (List.cons.inj this.2).1⟩
  rw [hT0, K.ins] at hT
  refine ⟨fun c => absurd hT.1 c, fun _ => ?_⟩
  have hT1 : T = stT p := hT.2
  subst hB0
  subst hT1
  intro M0 eM0 M1 eM1 M2 eM2
  have pre : ∀ {B T M0 M1 M2 : List Int}, M0.length = 16 → M1.length = 16 → M2.length = 16 → _root_.Go.Sx.L2.mLen 3 [B, T, M0, M1, M2] 2 := by
    intro B T M0 M1 M2 h0 h1 h2 j hj
    have : j = 0 ∨ j = 1 ∨ j = 2 := by omega
    rcases this with rfl | rfl | rfl
    · exact h0
    · exact h1
    · exact h2
  have l0 : M0.length = 16 := by rw [eM0]; rfl
  have l1 : M1.length = 16 := by rw [eM1]; rfl
  have l2 : M2.length = 16 := by rw [eM2]; rfl
  clear eM0 eM1 eM2 hT hT0
  have lens : ∀ {B T : List Int} {M0 M1 M2 : List Int} {env c0 c1 c2 c3 c4 : Int}, M0.length = 16 → M1.length = 16 → M2.length = 16 → (doM B T [M0, M1, M2] 3 env c0 c1 c2 c3 c4 0).length = 16 ∧ (doM B T [M0, M1, M2] 3 env c0 c1 c2 c3 c4 1).length = 16 ∧ (doM B T [M0, M1, M2] 3 env c0 c1 c2 c3 c4 2).length = 16 :=
    fun h0 h1 h2 => ⟨doM_len.trans h0, doM_len.trans h1, doM_len.trans h2⟩
  have hE1 : doE e 21 p a v3 0 = 0 := doE_fine (by omega) (by omega) (by omega) (by omega) (by omega) (by omega)
  have hE2 : doE e 20 p a 0 0 = 0 := doE_fine (by omega) (by omega) (by omega) (by omega) (by omega) (by omega)
  -- the store
  refine ⟨pre l0 l1 l2, ?_⟩
  intro s0 s1 s2 s3 s4 s5 B1 N0 N1 N2 h
  obtain ⟨h1, _, h3, h4, h5, h6, h7, h8, h9, h10⟩ := udo3_post h
  have F := do_ok (B := b0) (T := stT p) (Ls := [M0, M1, M2]) (K := 3) hE1 K.ok1
  have L := lens (B := b0) (T := stT p) (env := e) (c0 := 21) (c1 := p) (c2 := a) (c3 := v3) (c4 := 0) l0 l1 l2
  have n0 : N0.length = 16 := by rw [h8]; exact L.1
  have n1 : N1.length = 16 := by rw [h9]; exact L.2.1
  have n2 : N2.length = 16 := by rw [h10]; exact L.2.2
  rw [F.1] at h1
  rw [F.2.2.1, K.v1.1] at h3
  rw [F.2.2.1, K.v1.2.1] at h4
  rw [F.2.2.1, K.v1.2.2.1] at h5
  rw [F.2.2.1, K.v1.2.2.2] at h6
  rw [F.2.2.2.1] at h7
  rw [F.2.2.2.2, K.v1.2.2.1, st_store, if_pos (by omega)] at h10
  have hB1 : B1 = stB1 e p := h7
  subst hB1
  clear h L F h8 h9 h7
  refine ⟨trivial, ?_⟩
  intro u0 u1 u2 u3 T' hR
  have hT' : T' = stT' p := by
    have : [T'] = [remL (stT p) p] := hR.2
    exact (List.cons.inj this).1
  subst hT'
  -- the load by what the buffer still has
  refine ⟨pre n0 n1 n2, ?_⟩
  intro x0 x1 x2 x3 x4 x5 B2 P0 P1 P2 g
  obtain ⟨g1, g2, g3, g4, g5, g6, g7, g8, g9, g10⟩ := udo3_post g
  have F := do_ok (B := stB1 e p) (T := stT' p) (Ls := [N0, N1, N2]) (K := 3) hE2 K.ok2
  have L := lens (B := stB1 e p) (T := stT' p) (env := e) (c0 := 20) (c1 := p) (c2 := a) (c3 := 0) (c4 := 0) n0 n1 n2
  have p0 : P0.length = 16 := by rw [g8]; exact L.1
  have p1 : P1.length = 16 := by rw [g9]; exact L.2.1
  have p2 : P2.length = 16 := by rw [g10]; exact L.2.2
  rw [F.1] at g1
  rw [F.2.1, K.v2.2.2.1, st_load (by omega), h10, getD_set_same (by omega)] at g2
  rw [F.2.2.1, K.v2.1] at g3
  rw [F.2.2.1, K.v2.2.1] at g4
  rw [F.2.2.1, K.v2.2.2.1] at g5
  rw [F.2.2.1, K.v2.2.2.2] at g6
  rw [F.2.2.2.1] at g7
  have hB2 : B2 = stB2 e p := g7
  subst hB2
  clear g L F g8 g9 g10 g7 h10
  -- another environment
  intro y0 ey0 y1 ey1
  have ry := tmodP (x := (e : Int) + 1) (m := 4) (by omega) (by omega)
  rw [ey0] at ey1
  subst ey1
  refine ⟨pre p0 p1 p2, ?_⟩
  intro z0 z1 z2 z3 z4 z5 B3 Q0 Q1 Q2 k
  obtain ⟨k1, _, _, _, _, _, k7, k8, k9, k10⟩ := udo3_post k
  have hE3 : doE (((e : Int) + 1).tmod 4) 20 p a 0 0 = 0 := doE_fine (by omega) (by omega) (by omega) (by omega) (by omega) (by omega)
  have F := do_fault (B := stB2 e p) (T := stT' p) (Ls := [P0, P1, P2]) (K := 3) hE3 K.no3
  have L := lens (B := stB2 e p) (T := stT' p) (env := ((e : Int) + 1).tmod 4) (c0 := 20) (c1 := p) (c2 := a) (c3 := 0) (c4 := 0) p0 p1 p2
  have q0 : Q0.length = 16 := by rw [k8]; exact L.1
  have q1 : Q1.length = 16 := by rw [k9]; exact L.2.1
  have q2 : Q2.length = 16 := by rw [k10]; exact L.2.2
  rw [F.1] at k1
  rw [F.2.2.2.1] at k7
  have hB3 : B3 = stB3 e p := k7
  subst hB3
  clear k L F k8 k9 k10 k7
  refine ⟨trivial, ?_⟩
  intro fl B4 hF
  have hB4 : B4 = stB4 e p := by
    have : [B4] = [flushB (stB3 e p) e p] := hF.2
    exact (List.cons.inj this).1
  subst hB4
  refine ⟨pre q0 q1 q2, ?_⟩
  intro d0 d1 d2 d3 d4 d5 B5 R0 R1 R2 m
  obtain ⟨m1, _, m3, m4, m5, m6, _, _, _, _⟩ := udo3_post m
  have F := do_fault (B := stB4 e p) (T := stT' p) (Ls := [Q0, Q1, Q2]) (K := 3) hE2 K.no4
  rw [F.1] at m1
  rw [F.2.2.1] at m3 m4 m5 m6
  clear m F
  refine ⟨fun _ => ⟨fun _ => ?_, fun c => absurd h5 c⟩, fun c => absurd h1 c⟩
  intro a1 f1 a2 f2 a3 f3 a4 f4
  have ha4 : a4 = 1 := by rw [f4, f3, f2, f1, g1, g2]; simp [b2i]
  refine ⟨fun _ => ?_, fun c => by omega⟩
  intro b1 f5 b2 f6 b3 f7 b4 f8 b5 f9 b6 f10 b7 f11 b8 f12
  have hb8 : b8 = 1 := by rw [f12, f11, f10, f9, f8, f7, f6, f5, h3, h4, h5, h6, g3, g4, g5, g6]; simp [b2i]
  refine ⟨fun _ => ⟨fun _ => ⟨fun _ => ?_, fun c => absurd m1 c⟩, fun c => absurd k1 c⟩, fun c => by omega⟩
  intro o1 i1 o2 i2 o3 i3 o4 i4 o5 i5 o6 i6 o7 i7 o8 i8
  exact ⟨by rw [i8, i7, i6, i5, i4, i3, i2, i1, m3, m4, m5, m6]; decide, trivial⟩)
theorem userStale_holds : ((lawSpec L2.f_messuagelaw11_UserStale [.one (.i .i64), .one (.i .i64), .one (.i .i64), .one (.i .u64)]).withPre fun _ => True).Holds Tryz.prog L2.ro := holds_withPre _ userStale_holds0

theorem userStale_calls {H : Type} {enc : TypeId × Value → H} {W : World} {base : Nat} {args : Array Value} {ds : List (DataW H)} {p : List MemPlace} (hval : ∀ (j : Nat) t v, Tryz.f6.params[j]? = some t → args[j]? = some v → Value.okWide Tryz.prog W .any base t v)
    (hA : DataW.TrodAll enc Tryz.prog W 0 (fun _ => true) true Tryz.f6.params.toList args.toList ds p) (hL : laidMetH Tryz.prog laid1 W) : Calls Tryz.prog 6 args W fun e W' => e = .returned (.bool true) ∧ Go.Sx.Frame ⟨W, [], L2.ro⟩ W' := by
  rw [Tryz.params6] at hA hval
  obtain ⟨v0, v1, v2, v3, d0, d1, d2, d3, p0, p1, p2, p3, rfl, rfl, rfl, h0, h1, h2, h3⟩ := trodAll_four hA
  obtain ⟨n0, q0⟩ := par_int (base := 0) und3 (hval 0 3 v0 rfl rfl) h0
  obtain ⟨n1, q1⟩ := par_int (base := 0) und3 (hval 1 3 v1 rfl rfl) h1
  obtain ⟨n2, q2⟩ := par_int (base := 0) und3 (hval 2 3 v2 rfl rfl) h2
  obtain ⟨n3, q3⟩ := par_int (base := 0) und56 (hval 3 56 v3 rfl rfl) h3
  exact law_calls (userStale_holds) Tryz.func6 (show Tryz.f6.body = some _ from rfl) (by kernel_rfl) (.cons q0 (.cons q1 (.cons q2 (.cons q3 .none)))) trivial (ro_of_laid hL)
set_option maxHeartbeats 1000000 in
theorem userStale_lifted (os : Os) (started : os.Started) (H : Type) (enc : TypeId × Value → H) :
    ReturnsInHanded {} Tryz.checked os 6 .any (fun w args => (Rows.userStaleSpec.pre enc Tryz.prog Tryz.f6 [] false w args ∧ laidMetH Tryz.prog laid1 w) ∧ sizedMet enc Tryz.prog Tryz.f6 (OpenSpec.ofChange Rows.userStaleSpec) false w args)
      (Rows.userStaleSpec.post enc Tryz.prog Tryz.f6 false true false false) := by
  refine returnsInHanded_of_change_and (C := Tryz.checked) (X := fun w _ => laidMetH Tryz.prog laid1 w) (fun _ _ _ hh h => h.of_heap hh) Tryz.own started (by kernel_rfl) Tryz.func6
    (ChangeSpec.witness_at (enc := enc) (C := Tryz.checked) (os := os) (X := fun w _ => laidMetH Tryz.prog laid1 w) false (laidWorld os) #[.int .i64 0, .int .i64 0, .int .i64 0, .int .u64 0] 8 rfl (by kernel_rfl) (by kernel_rfl) (by kernel_rfl) (by kernel_rfl) (by kernel_rfl) (laidWorld_met os _)) ?_
  intro W base args ds gs before hval0 hW _ _ hL _
  have hval : ∀ (j : Nat) t v, Tryz.f6.params[j]? = some t → args[j]? = some v → Value.okWide Tryz.prog W .any base t v := hval0
  have hW' := hW
  obtain ⟨p, q, hA0, hV0, rfl, hfz, hnd⟩ := hW
  have hcall := userStale_calls (enc := enc) hval hA0 hL
  refine Calls.mono hcall ?_
  rintro e W' ⟨rfl, hfr⟩
  exact ⟨_, rfl, post_kept Tryz.laidOut (by kernel_rfl) rfl rfl und4 hW' hfr (by
    have hg : gs = [] := by cases gs with | nil => rfl | cons g r => exact absurd hV0 (by intro h; cases h)
    subst hg
    have hA1 : DataW.TrodAll enc Tryz.prog W 0 (fun _ => true) true Tryz.f6.params.toList args.toList ds p := hA0
    rw [Tryz.params6] at hA1
    obtain ⟨v0, v1, v2, v3, d0, d1, d2, d3, p0, p1, p2, p3, ea, rfl, ec, h0, h1, h2, h3⟩ := trodAll_four hA1
    rfl)⟩

theorem userStale_row : Rows.UserStaleSaid :=
  OpenClaim.holds_of_wide 6 Tryz.f6 rfl rfl rfl rfl rfl rfl rfl ⟨rfl, rfl, rfl, rfl, rfl⟩ rfl rfl rfl rfl rfl (by kernel_rfl) Tryz.func6 (restFacts.2 _ _ _ _ _ Tryz.mayEnter Tryz.liftsFinal Tryz.make (by kernel_rfl))
    (of_decide_eq_true (by kernel_rfl)) (by unfold Func.isWrapper; rw [if_neg (of_decide_eq_false (by kernel_rfl))]; exact ⟨rfl, rfl⟩)
    (fun os started H enc _ => userStale_lifted os started H enc)
theorem userStale_card : Rows.UserStaleCardSaid :=
  Claim7.holds_tied_plain_at .later [] [.handle] true (true, "2b6aa8c52f26a36866b589049fd1d65802bdae42632cc16d24d227b9428605b6") true
    userStale_row (fun _ h => by cases h) (by kernel_rfl) (fun _ h => by cases h) userStale_row_tie rfl ⟨rfl, rfl⟩ Tryz.mainIs rfl
    (fun f fn hf hfn => by
      obtain rfl : f = 6 := Option.some.inj ((show Tryz.prog.funcNamed "messuage/messuagelaw11.UserStale" = some 6 by kernel_rfl).symm.trans hf) |>.symm
      obtain rfl : fn = Tryz.f6 := (Option.some.inj (Tryz.func6.symm.trans hfn)).symm
      exact ⟨by kernel_rfl, fun j t ht => by
        rw [Tryz.params6] at ht
        rcases j with _ | _ | _ | _ | j
        · obtain rfl : 3 = t := by simpa using ht
          exact (show Tryz.prog.wantsStandIn 3 = false by kernel_rfl)
        · obtain rfl : 3 = t := by simpa using ht
          exact (show Tryz.prog.wantsStandIn 3 = false by kernel_rfl)
        · obtain rfl : 3 = t := by simpa using ht
          exact (show Tryz.prog.wantsStandIn 3 = false by kernel_rfl)
        · obtain rfl : 56 = t := by simpa using ht
          exact (show Tryz.prog.wantsStandIn 56 = false by kernel_rfl)
        · simp at ht⟩)
    (by kernel_rfl)
#print axioms userStale_card
end Go.Proofs.YtegeplgckfpleaaGreatDoor
