/- The statement messuagelaw11.PlainShare of the seat: for every input the law returns true; the condition: errors.errorType is as the program lays it. -/
import Derived.Test.YtbpilohnhhbbpaaGreatDoorL2B
import Derived.Test.YtbpilohnhhbbpaaGreatDoorSxM7
import Derived.Test.YtbpilohnhhbbpaaGreatDoorL2Pb
import Derived.Test.YtbpilohnhhbbpaaGreatDoorL2Yh
import Derived.Test.YtbpilohnhhbbpaaGreatDoorL2Yi
import Derived.Test.YtbpilohnhhbbpaaGreatDoorPuM
set_option linter.unusedVariables false
set_option linter.constructorNameAsVariable false
set_option linter.unusedSimpArgs false
open Go Go.Sx
namespace Go.Proofs.YtbpilohnhhbbpaaGreatDoor
open Go.ChangeShapes Go.WideShapes Go.RowKit
set_option maxRecDepth 100000

noncomputable def PlainShare_t : Tree := .call 19 (Go.Sx.L2.yes Go.Sx.L2.f_messuagelaw11_begun).rel [] [] 0 0 (.letI (.rem (.v 0) (.c 16)) (.letI (.add (.v 4) (.c 16)) (.letI (.rem (.v 5) (.c 16)) (.letI (.rem (.v 3) (.c 3)) (.letI (.add (.v 7) (.c 3)) (.letI (.rem (.v 8) (.c 3)) (.letI (.add (.c 1) (.v 9)) (.call 77 (Go.Sx.L2.pNew2).rel [] [] 2 0 (.call 10 (Go.Sx.L2.qH1).rel [.v 11, .v 12] [] 0 0 (.call 10 (Go.Sx.L2.qH1).rel [.v 11, .v 12] [] 0 0 (.call 10 (Go.Sx.L2.qH1).rel [.v 11, .v 12, .v 10] [] 0 0 (.call 10 (Go.Sx.L2.qH1).rel [.v 11, .v 12, .v 10] [] 0 0 (.letL (.lit [.c (0), .c (0), .c (0), .c (0), .c (0), .c (0), .c (0), .c (0), .c (0), .c (0), .c (0), .c (0), .c (0), .c (0), .c (0), .c (0)]) (.call 10 (Go.Sx.L2.qH5).rel [.v 11, .v 12, .v 10, .v 6, .v 1] [0] 0 1 (.call 10 (Go.Sx.L2.qH6).rel [.v 11, .v 12, .v 10, .v 6] [1] 2 0 (.call 10 (Go.Sx.L2.qH7).rel [.v 11, .v 12, .v 10, .v 6, .v 2, .c (0)] [1] 1 1 (.letL (.lit [.c (0), .c (0), .c (0), .c (0), .c (0), .c (0), .c (0), .c (0), .c (0), .c (0), .c (0), .c (0), .c (0), .c (0), .c (0), .c (0)]) (.call 10 (Go.Sx.L2.qH8).rel [.v 11, .v 12, .v 10, .v 6] [2, 3] 1 0 (.letI (.bit .and .i64 (.v 10) (.c 1)) (.letI (.cmp .eql (.v 17) (.c 1)) (.letI (.bit .and .i64 (.v 10) (.c 2)) (.letI (.cmp .eql (.v 19) (.c 2)) (.ite (.v 20) (.ite (.v 18) (.letI (.cmp .eql (.v 13) (.c 0)) (.letI (.cmp .eql (.v 1) (.v 14)) (.letI (.pick (.v 22) (.c 1) (.c 0)) (.letI (.pick (.v 21) (.v 23) (.c 0)) (.letI (.not (.v 24)) (.ite (.v 25) (.fail 180) (.letI (.cmp .eql (.v 15) (.c 0)) (.letI (.not (.v 26)) (.letI (.cmp .neq (.v 27) (.c 0)) (.ite (.v 28) (.fail 180) (.letI (.cmp .eql (.v 2) (.v 16)) (.letI (.pick (.v 29) (.c 1) (.c 0)) (.letI (.not (.v 30)) (.ite (.v 31) (.fail 180) (.call 10 (Go.Sx.L2.qH9).rel [.v 11, .v 12, .v 10] [2, 3] 0 0 (.call 10 (Go.Sx.L2.qH9).rel [.v 11, .v 12, .v 6] [2, 3] 0 0 (.call 10 (Go.Sx.L2.qH11).rel [.v 11, .v 12, .v 6, .c (0), .c (0)] [2, 3] 1 0 (.done [] [])))))))))))))))))) (.letI (.cmp .neq (.v 13) (.c 7)) (.ite (.v 21) (.fail 180) (.letI (.cmp .eql (.v 15) (.c 0)) (.letI (.not (.v 22)) (.letI (.cmp .neq (.v 23) (.c 0)) (.ite (.v 24) (.fail 180) (.letI (.cmp .eql (.v 2) (.v 16)) (.letI (.pick (.v 25) (.c 1) (.c 0)) (.letI (.not (.v 26)) (.ite (.v 27) (.fail 180) (.call 10 (Go.Sx.L2.qH9).rel [.v 11, .v 12, .v 10] [2, 3] 0 0 (.call 10 (Go.Sx.L2.qH9).rel [.v 11, .v 12, .v 6] [2, 3] 0 0 (.call 10 (Go.Sx.L2.qH11).rel [.v 11, .v 12, .v 6, .c (0), .c (0)] [2, 3] 1 0 (.done [] []))))))))))))))) (.ite (.v 18) (.letI (.cmp .eql (.v 13) (.c 0)) (.letI (.cmp .eql (.v 1) (.v 14)) (.letI (.pick (.v 22) (.c 1) (.c 0)) (.letI (.pick (.v 21) (.v 23) (.c 0)) (.letI (.not (.v 24)) (.ite (.v 25) (.fail 180) (.letI (.cmp .eql (.v 15) (.c 0)) (.letI (.not (.v 26)) (.letI (.cmp .neq (.v 27) (.c 1)) (.ite (.v 28) (.fail 180) (.letI (.cmp .eql (.v 1) (.v 16)) (.letI (.pick (.v 29) (.c 1) (.c 0)) (.letI (.not (.v 30)) (.ite (.v 31) (.fail 180) (.call 10 (Go.Sx.L2.qH9).rel [.v 11, .v 12, .v 10] [2, 3] 0 0 (.call 10 (Go.Sx.L2.qH9).rel [.v 11, .v 12, .v 6] [2, 3] 0 0 (.call 10 (Go.Sx.L2.qH11).rel [.v 11, .v 12, .v 6, .c (0), .c (0)] [2, 3] 1 0 (.done [] [])))))))))))))))))) (.letI (.cmp .neq (.v 13) (.c 7)) (.ite (.v 21) (.fail 180) (.letI (.cmp .eql (.v 15) (.c 0)) (.letI (.not (.v 22)) (.letI (.cmp .neq (.v 23) (.c 1)) (.ite (.v 24) (.fail 180) (.letI (.cmp .eql (.v 1) (.v 16)) (.letI (.pick (.v 25) (.c 1) (.c 0)) (.letI (.not (.v 26)) (.ite (.v 27) (.fail 180) (.call 10 (Go.Sx.L2.qH9).rel [.v 11, .v 12, .v 10] [2, 3] 0 0 (.call 10 (Go.Sx.L2.qH9).rel [.v 11, .v 12, .v 6] [2, 3] 0 0 (.call 10 (Go.Sx.L2.qH11).rel [.v 11, .v 12, .v 6, .c (0), .c (0)] [2, 3] 1 0 (.done [] []))))))))))))))))))))))))))))))))))))))
theorem PlainShare_tree : (lawSpec L2.f_messuagelaw11_PlainShare [.one (.i .i64), .one (.i .u64), .one (.i .u64), .one (.i .i64)]).exe Tryz.prog (withC (withA (withS (L2.cfgB Tryz.prog) [L2.pNew2]) L2.f_plain_Kernel_Do [L2.qH1, L2.qH2, L2.qH3, L2.qH4, L2.qH5, L2.qH6, L2.qH7, L2.qH8, L2.qH9, L2.qH10, L2.qH11])) [] 20 200 = PlainShare_t := by kernel_rfl
theorem PlainShare_vc (Q : List Int → List (List Int) → Prop) (v0 v1 v2 v3 : Int) : PlainShare_t.dn ⟨Q, []⟩ 4 [v3, v2, v1, v0] 0 [] = ((Go.Sx.L2.yes Go.Sx.L2.f_messuagelaw11_begun).rel.pre [] [] ∧
((Go.Sx.L2.yes Go.Sx.L2.f_messuagelaw11_begun).rel.post [] [] [] [] → ∀ v4 : Int, v4 = (v0).tmod (16 : Int) → ∀ v5 : Int, v5 = v4 + (16 : Int) → ∀ v6 : Int, v6 = (v5).tmod (16 : Int) → ∀ v7 : Int, v7 = (v3).tmod (3 : Int) → ∀ v8 : Int, v8 = v7 + (3 : Int) → ∀ v9 : Int, v9 = (v8).tmod (3 : Int) → ∀ v10 : Int, v10 = (1 : Int) + v9 → (Go.Sx.L2.pNew2).rel.pre [] [] ∧
(∀ v11 : Int, ∀ v12 : Int, (Go.Sx.L2.pNew2).rel.post [] [] [v11, v12] [] → (Go.Sx.L2.qH1).rel.pre [v11, v12] [] ∧
((Go.Sx.L2.qH1).rel.post [v11, v12] [] [] [] → (Go.Sx.L2.qH1).rel.pre [v11, v12] [] ∧
((Go.Sx.L2.qH1).rel.post [v11, v12] [] [] [] → (Go.Sx.L2.qH1).rel.pre [v11, v12, v10] [] ∧
((Go.Sx.L2.qH1).rel.post [v11, v12, v10] [] [] [] → (Go.Sx.L2.qH1).rel.pre [v11, v12, v10] [] ∧
((Go.Sx.L2.qH1).rel.post [v11, v12, v10] [] [] [] → ∀ L0 : List Int, L0 = [(0 : Int), (0 : Int), (0 : Int), (0 : Int), (0 : Int), (0 : Int), (0 : Int), (0 : Int), (0 : Int), (0 : Int), (0 : Int), (0 : Int), (0 : Int), (0 : Int), (0 : Int), (0 : Int)] → (Go.Sx.L2.qH5).rel.pre [v11, v12, v10, v6, v1] [L0] ∧
(∀ L1 : List Int, (Go.Sx.L2.qH5).rel.post [v11, v12, v10, v6, v1] [L0] [] [L1] → (Go.Sx.L2.qH6).rel.pre [v11, v12, v10, v6] [L1] ∧
(∀ v13 : Int, ∀ v14 : Int, (Go.Sx.L2.qH6).rel.post [v11, v12, v10, v6] [L1] [v13, v14] [] → (Go.Sx.L2.qH7).rel.pre [v11, v12, v10, v6, v2, (0 : Int)] [L1] ∧
(∀ v15 : Int, ∀ L2 : List Int, (Go.Sx.L2.qH7).rel.post [v11, v12, v10, v6, v2, (0 : Int)] [L1] [v15] [L2] → ∀ L3 : List Int, L3 = [(0 : Int), (0 : Int), (0 : Int), (0 : Int), (0 : Int), (0 : Int), (0 : Int), (0 : Int), (0 : Int), (0 : Int), (0 : Int), (0 : Int), (0 : Int), (0 : Int), (0 : Int), (0 : Int)] → (Go.Sx.L2.qH8).rel.pre [v11, v12, v10, v6] [L2, L3] ∧
(∀ v16 : Int, (Go.Sx.L2.qH8).rel.post [v11, v12, v10, v6] [L2, L3] [v16] [] → ∀ v17 : Int, v17 = bitDen .and .i64 v10 (1 : Int) → ∀ v18 : Int, v18 = b2i (v17 == (1 : Int)) → ∀ v19 : Int, v19 = bitDen .and .i64 v10 (2 : Int) → ((v19 = (2 : Int)) → (v18 ≠ 0 → ∀ v21 : Int, v21 = b2i (v13 == (0 : Int)) → ∀ v22 : Int, v22 = b2i (v1 == v14) → ∀ v23 : Int, v23 = (if v22 = 0 then (0 : Int) else (1 : Int)) → ∀ v24 : Int, v24 = (if v21 = 0 then (0 : Int) else v23) → ∀ v25 : Int, v25 = b2i (v24 == 0) → (v25 ≠ 0 → False) ∧
(v25 = 0 → ∀ v26 : Int, v26 = b2i (v15 == (0 : Int)) → ∀ v27 : Int, v27 = b2i (v26 == 0) → ((v27 ≠ (0 : Int)) → False) ∧
((v27 = (0 : Int)) → ∀ v29 : Int, v29 = b2i (v2 == v16) → ∀ v30 : Int, v30 = (if v29 = 0 then (0 : Int) else (1 : Int)) → ∀ v31 : Int, v31 = b2i (v30 == 0) → (v31 ≠ 0 → False) ∧
(v31 = 0 → (Go.Sx.L2.qH9).rel.pre [v11, v12, v10] [L2, L3] ∧
((Go.Sx.L2.qH9).rel.post [v11, v12, v10] [L2, L3] [] [] → (Go.Sx.L2.qH9).rel.pre [v11, v12, v6] [L2, L3] ∧
((Go.Sx.L2.qH9).rel.post [v11, v12, v6] [L2, L3] [] [] → (Go.Sx.L2.qH11).rel.pre [v11, v12, v6, (0 : Int), (0 : Int)] [L2, L3] ∧
(∀ v32 : Int, (Go.Sx.L2.qH11).rel.post [v11, v12, v6, (0 : Int), (0 : Int)] [L2, L3] [v32] [] → Q [] []))))))) ∧
(v18 = 0 → ((v13 ≠ (7 : Int)) → False) ∧
((v13 = (7 : Int)) → ∀ v22 : Int, v22 = b2i (v15 == (0 : Int)) → ∀ v23 : Int, v23 = b2i (v22 == 0) → ((v23 ≠ (0 : Int)) → False) ∧
((v23 = (0 : Int)) → ∀ v25 : Int, v25 = b2i (v2 == v16) → ∀ v26 : Int, v26 = (if v25 = 0 then (0 : Int) else (1 : Int)) → ∀ v27 : Int, v27 = b2i (v26 == 0) → (v27 ≠ 0 → False) ∧
(v27 = 0 → (Go.Sx.L2.qH9).rel.pre [v11, v12, v10] [L2, L3] ∧
((Go.Sx.L2.qH9).rel.post [v11, v12, v10] [L2, L3] [] [] → (Go.Sx.L2.qH9).rel.pre [v11, v12, v6] [L2, L3] ∧
((Go.Sx.L2.qH9).rel.post [v11, v12, v6] [L2, L3] [] [] → (Go.Sx.L2.qH11).rel.pre [v11, v12, v6, (0 : Int), (0 : Int)] [L2, L3] ∧
(∀ v28 : Int, (Go.Sx.L2.qH11).rel.post [v11, v12, v6, (0 : Int), (0 : Int)] [L2, L3] [v28] [] → Q [] [])))))))) ∧
((v19 ≠ (2 : Int)) → (v18 ≠ 0 → ∀ v21 : Int, v21 = b2i (v13 == (0 : Int)) → ∀ v22 : Int, v22 = b2i (v1 == v14) → ∀ v23 : Int, v23 = (if v22 = 0 then (0 : Int) else (1 : Int)) → ∀ v24 : Int, v24 = (if v21 = 0 then (0 : Int) else v23) → ∀ v25 : Int, v25 = b2i (v24 == 0) → (v25 ≠ 0 → False) ∧
(v25 = 0 → ∀ v26 : Int, v26 = b2i (v15 == (0 : Int)) → ∀ v27 : Int, v27 = b2i (v26 == 0) → ((v27 ≠ (1 : Int)) → False) ∧
((v27 = (1 : Int)) → ∀ v29 : Int, v29 = b2i (v1 == v16) → ∀ v30 : Int, v30 = (if v29 = 0 then (0 : Int) else (1 : Int)) → ∀ v31 : Int, v31 = b2i (v30 == 0) → (v31 ≠ 0 → False) ∧
(v31 = 0 → (Go.Sx.L2.qH9).rel.pre [v11, v12, v10] [L2, L3] ∧
((Go.Sx.L2.qH9).rel.post [v11, v12, v10] [L2, L3] [] [] → (Go.Sx.L2.qH9).rel.pre [v11, v12, v6] [L2, L3] ∧
((Go.Sx.L2.qH9).rel.post [v11, v12, v6] [L2, L3] [] [] → (Go.Sx.L2.qH11).rel.pre [v11, v12, v6, (0 : Int), (0 : Int)] [L2, L3] ∧
(∀ v32 : Int, (Go.Sx.L2.qH11).rel.post [v11, v12, v6, (0 : Int), (0 : Int)] [L2, L3] [v32] [] → Q [] []))))))) ∧
(v18 = 0 → ((v13 ≠ (7 : Int)) → False) ∧
((v13 = (7 : Int)) → ∀ v22 : Int, v22 = b2i (v15 == (0 : Int)) → ∀ v23 : Int, v23 = b2i (v22 == 0) → ((v23 ≠ (1 : Int)) → False) ∧
((v23 = (1 : Int)) → ∀ v25 : Int, v25 = b2i (v1 == v16) → ∀ v26 : Int, v26 = (if v25 = 0 then (0 : Int) else (1 : Int)) → ∀ v27 : Int, v27 = b2i (v26 == 0) → (v27 ≠ 0 → False) ∧
(v27 = 0 → (Go.Sx.L2.qH9).rel.pre [v11, v12, v10] [L2, L3] ∧
((Go.Sx.L2.qH9).rel.post [v11, v12, v10] [L2, L3] [] [] → (Go.Sx.L2.qH9).rel.pre [v11, v12, v6] [L2, L3] ∧
((Go.Sx.L2.qH9).rel.post [v11, v12, v6] [L2, L3] [] [] → (Go.Sx.L2.qH11).rel.pre [v11, v12, v6, (0 : Int), (0 : Int)] [L2, L3] ∧
(∀ v28 : Int, (Go.Sx.L2.qH11).rel.post [v11, v12, v6, (0 : Int), (0 : Int)] [L2, L3] [v28] [] → Q [] []))))))))))))))))))) := by kernel_rfl
set_option maxHeartbeats 4000000 in
theorem plainShare_holds0 : (lawSpec L2.f_messuagelaw11_PlainShare [.one (.i .i64), .one (.i .u64), .one (.i .u64), .one (.i .i64)]).Holds Tryz.prog L2.ro := FSpec.holdsV (cfg := withC (withA (withS (L2.cfgB Tryz.prog) [L2.pNew2]) L2.f_plain_Kernel_Do [L2.qH1, L2.qH2, L2.qH3, L2.qH4, L2.qH5, L2.qH6, L2.qH7, L2.qH8, L2.qH9, L2.qH10, L2.qH11])) [] 20 200 (withC_ok (withA_ok (withS_ok cfgB_ok ⟨pNew2_holds, trivial⟩) (fun s hs => by
  simp only [List.mem_cons, List.not_mem_nil, or_false] at hs
  rcases hs with rfl | rfl | rfl | rfl | rfl | rfl | rfl | rfl | rfl | rfl | rfl <;> rfl) ⟨qH1_holds, qH2_holds, qH3_holds, qH4_holds, qH5_holds, qH6_holds, qH7_holds, qH8_holds, qH9_holds, qH10_holds, qH11_holds, trivial⟩)) mixed (t := PlainShare_t) PlainShare_tree (by
  show ∀ (v0 v1 v2 v3 : Int) , _
  intro v0 v1 v2 v3  hp hr hl
  replace hr : ((-9223372036854775808 : Int) ≤ v0 ∧ v0 ≤ (9223372036854775807 : Int)) ∧ ((0 : Int) ≤ v1 ∧ v1 ≤ (18446744073709551615 : Int)) ∧ ((0 : Int) ≤ v2 ∧ v2 ≤ (18446744073709551615 : Int)) ∧ ((-9223372036854775808 : Int) ≤ v3 ∧ v3 ≤ (9223372036854775807 : Int)) ∧ True := hr
  replace hp : True := hp
  show PlainShare_t.dn ⟨_, []⟩ 4 [v3, v2, v1, v0] 0 []
  rw [PlainShare_vc]
  show ((L2.yes L2.f_messuagelaw11_begun).rel.pre [] [] ∧ _)
  refine ⟨trivial, fun _ => ?_⟩
  intro v4 e4 v5 e5 v6 e6 v7 e7 v8 e8 v9 e9 v10 e10
  have r4 := tmodR (x := v0) (m := 16) (by omega)
  have r6 := tmodP (x := v5) (m := 16) (by omega) (by omega)
  have r7 := tmodR (x := v3) (m := 3) (by omega)
  have r9 := tmodP (x := v8) (m := 3) (by omega) (by omega)
  rw [← e6] at r6
  rw [← e9] at r9
  have h6 : 0 ≤ v6 ∧ v6 ≤ 15 := by omega
  have h10 : v10 = 1 ∨ v10 = 2 ∨ v10 = 3 := by omega
  clear r4 r6 r7 r9 e4 e5 e6 e7 e8 e9 e10 hr hp hl
  refine ⟨trivial, fun v11 v12 _ => ?_⟩
  iterate 4 refine ⟨trivial, fun _ => ?_⟩
  intro L0 hL0
  have n0 : L0.length = 16 := by rw [hL0]; rfl
  refine ⟨n0, fun L1 h1 => ?_⟩
  have q1 : L1 = L0.set v6.toNat v1 := by
    have : _ ∧ [L1] = [L0.set v6.toNat v1] := h1
    exact (List.cons.inj this.2).1
  have n1 : L1.length = 16 := by rw [q1, List.length_set]; exact n0
  have a1 : L1.getD v6.toNat 0 = v1 := by rw [q1]; grind
  refine ⟨n1, fun v13 v14 h2 => ?_⟩
  have h2 : [v13, v14] = [if letsB v10 20 then (0 : Int) else 7, if letsB v10 20 then L1.getD v6.toNat 0 else 0] := h2.1
  rw [a1] at h2
  refine ⟨n1, fun v15 M h3 => ?_⟩
  have h3 : [v15] = [if letsB v10 21 then (0 : Int) else 7] ∧ [M] = [if letsB v10 21 then L1.set v6.toNat v2 else L1] := h3
  have q2 : M = if letsB v10 21 then L1.set v6.toNat v2 else L1 := (List.cons.inj h3.2).1
  have n2 : M.length = 16 := by rw [q2]; split <;> simp [n1]
  have a2 : M.getD v6.toNat 0 = if letsB v10 21 then v2 else v1 := by rw [q2]; split <;> grind
  intro L3 hL3
  have n3 : L3.length = 16 := by rw [hL3]; rfl
  refine ⟨⟨n2, n3⟩, fun v16 h4 => ?_⟩
  have h4 : [v16] = [M.getD v6.toNat 0] := h4.1
  rw [a2] at h4
  simp only [List.cons.injEq, and_true] at h2 h3 h4
  obtain ⟨p13, p14⟩ := h2
  have p15 := h3.1
  clear q1 q2 a1 a2 h1 h3 hL0 hL3
  rcases h10 with rfl | rfl | rfl
  · have b1 : bitDen .and .i64 1 1 = 1 := by decide +kernel
    have b2 : bitDen .and .i64 1 2 = 0 := by decide +kernel
    rw [b1, b2]
    have l1 : letsB 1 20 = true := rfl
    have l2 : letsB 1 21 = false := rfl
    simp only [l1, l2, if_true, Bool.false_eq_true, if_false] at p13 p14 p15 h4
    repeat' first | refine And.intro ?_ ?_ | intro _
    all_goals first | trivial | exact n2 | exact n3 | grind [b2i]
  · have b1 : bitDen .and .i64 2 1 = 0 := by decide +kernel
    have b2 : bitDen .and .i64 2 2 = 2 := by decide +kernel
    rw [b1, b2]
    have l1 : letsB 2 20 = false := rfl
    have l2 : letsB 2 21 = true := rfl
    simp only [l1, l2, if_true, Bool.false_eq_true, if_false] at p13 p14 p15 h4
    repeat' first | refine And.intro ?_ ?_ | intro _
    all_goals first | trivial | exact n2 | exact n3 | grind [b2i]
  · have b1 : bitDen .and .i64 3 1 = 1 := by decide +kernel
    have b2 : bitDen .and .i64 3 2 = 2 := by decide +kernel
    rw [b1, b2]
    have l1 : letsB 3 20 = true := rfl
    have l2 : letsB 3 21 = true := rfl
    simp only [l1, l2, if_true] at p13 p14 p15 h4
    repeat' first | refine And.intro ?_ ?_ | intro _
    all_goals first | trivial | exact n2 | exact n3 | grind [b2i])
theorem plainShare_holds : ((lawSpec L2.f_messuagelaw11_PlainShare [.one (.i .i64), .one (.i .u64), .one (.i .u64), .one (.i .i64)]).withPre fun _ => True).Holds Tryz.prog L2.ro := holds_withPre _ plainShare_holds0

theorem plainShare_calls {H : Type} {enc : TypeId × Value → H} {W : World} {base : Nat} {args : Array Value} {ds : List (DataW H)} {p : List MemPlace} (hval : ∀ (j : Nat) t v, Tryz.f5.params[j]? = some t → args[j]? = some v → Value.okWide Tryz.prog W .any base t v)
    (hA : DataW.TrodAll enc Tryz.prog W 0 (fun _ => true) true Tryz.f5.params.toList args.toList ds p) (hL : laidMetH Tryz.prog laid1 W) : Calls Tryz.prog 5 args W fun e W' => e = .returned (.bool true) ∧ Go.Sx.Frame ⟨W, [], L2.ro⟩ W' := by
  rw [Tryz.params5] at hA hval
  obtain ⟨v0, v1, v2, v3, d0, d1, d2, d3, p0, p1, p2, p3, rfl, rfl, rfl, h0, h1, h2, h3⟩ := trodAll_four hA
  obtain ⟨n0, q0⟩ := par_int (base := 0) und3 (hval 0 3 v0 rfl rfl) h0
  obtain ⟨n1, q1⟩ := par_int (base := 0) und26 (hval 1 26 v1 rfl rfl) h1
  obtain ⟨n2, q2⟩ := par_int (base := 0) und26 (hval 2 26 v2 rfl rfl) h2
  obtain ⟨n3, q3⟩ := par_int (base := 0) und3 (hval 3 3 v3 rfl rfl) h3
  exact law_calls (plainShare_holds) Tryz.func5 (show Tryz.f5.body = some _ from rfl) (by kernel_rfl) (.cons q0 (.cons q1 (.cons q2 (.cons q3 .none)))) trivial (ro_of_laid hL)
set_option maxHeartbeats 1000000 in
theorem plainShare_lifted (os : Os) (started : os.Started) (H : Type) (enc : TypeId × Value → H) :
    ReturnsInHanded {} Tryz.checked os 5 .any (fun w args => (Rows.plainShareSpec.pre enc Tryz.prog Tryz.f5 [] false w args ∧ laidMetH Tryz.prog laid1 w) ∧ sizedMet enc Tryz.prog Tryz.f5 (OpenSpec.ofChange Rows.plainShareSpec) false w args)
      (Rows.plainShareSpec.post enc Tryz.prog Tryz.f5 false true false false) := by
  refine returnsInHanded_of_change_and (C := Tryz.checked) (X := fun w _ => laidMetH Tryz.prog laid1 w) (fun _ _ _ hh h => h.of_heap hh) Tryz.own started (by kernel_rfl) Tryz.func5
    (ChangeSpec.witness_at (enc := enc) (C := Tryz.checked) (os := os) (X := fun w _ => laidMetH Tryz.prog laid1 w) false (laidWorld os) #[.int .i64 0, .int .u64 0, .int .u64 0, .int .i64 0] 8 rfl (by kernel_rfl) (by kernel_rfl) (by kernel_rfl) (by kernel_rfl) (by kernel_rfl) (laidWorld_met os _)) ?_
  intro W base args ds gs before hval0 hW _ _ hL _
  have hval : ∀ (j : Nat) t v, Tryz.f5.params[j]? = some t → args[j]? = some v → Value.okWide Tryz.prog W .any base t v := hval0
  have hW' := hW
  obtain ⟨p, q, hA0, hV0, rfl, hfz, hnd⟩ := hW
  have hcall := plainShare_calls (enc := enc) hval hA0 hL
  refine Calls.mono hcall ?_
  rintro e W' ⟨rfl, hfr⟩
  exact ⟨_, rfl, post_kept Tryz.laidOut (by kernel_rfl) rfl rfl und4 hW' hfr (by
    have hg : gs = [] := by cases gs with | nil => rfl | cons g r => exact absurd hV0 (by intro h; cases h)
    subst hg
    have hA1 : DataW.TrodAll enc Tryz.prog W 0 (fun _ => true) true Tryz.f5.params.toList args.toList ds p := hA0
    rw [Tryz.params5] at hA1
    obtain ⟨v0, v1, v2, v3, d0, d1, d2, d3, p0, p1, p2, p3, ea, rfl, ec, h0, h1, h2, h3⟩ := trodAll_four hA1
    rfl)⟩

theorem plainShare_row : Rows.PlainShareSaid :=
  OpenClaim.holds_of_wide 5 Tryz.f5 rfl rfl rfl rfl rfl rfl rfl ⟨rfl, rfl, rfl, rfl, rfl⟩ rfl rfl rfl rfl rfl (by kernel_rfl) Tryz.func5 (restFacts.2 _ _ _ _ _ Tryz.mayEnter Tryz.liftsFinal Tryz.make (by kernel_rfl))
    (of_decide_eq_true (by kernel_rfl)) (by unfold Func.isWrapper; rw [if_neg (of_decide_eq_false (by kernel_rfl))]; exact ⟨rfl, rfl⟩)
    (fun os started H enc _ => plainShare_lifted os started H enc)
theorem plainShare_card : Rows.PlainShareCardSaid :=
  Claim7.holds_tied_plain_at .later [] [.handle] true (true, "851eb3c6cb4eec7be8b282394a5029edcc67dd85afd058a13b27a4b6edc94801") true
    plainShare_row (fun _ h => by cases h) (by kernel_rfl) (fun _ h => by cases h) plainShare_row_tie rfl ⟨rfl, rfl⟩ Tryz.mainIs rfl
    (fun f fn hf hfn => by
      obtain rfl : f = 5 := Option.some.inj ((show Tryz.prog.funcNamed "messuage/messuagelaw11.PlainShare" = some 5 by kernel_rfl).symm.trans hf) |>.symm
      obtain rfl : fn = Tryz.f5 := (Option.some.inj (Tryz.func5.symm.trans hfn)).symm
      exact ⟨by kernel_rfl, fun j t ht => by
        rw [Tryz.params5] at ht
        rcases j with _ | _ | _ | _ | j
        · obtain rfl : 3 = t := by simpa using ht
          exact (show Tryz.prog.wantsStandIn 3 = false by kernel_rfl)
        · obtain rfl : 26 = t := by simpa using ht
          exact (show Tryz.prog.wantsStandIn 26 = false by kernel_rfl)
        · obtain rfl : 26 = t := by simpa using ht
          exact (show Tryz.prog.wantsStandIn 26 = false by kernel_rfl)
        · obtain rfl : 3 = t := by simpa using ht
          exact (show Tryz.prog.wantsStandIn 3 = false by kernel_rfl)
        · simp at ht⟩)
    (by kernel_rfl)
#print axioms plainShare_card
end Go.Proofs.YtbpilohnhhbbpaaGreatDoor
