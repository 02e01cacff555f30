/- The statement messuagelaw2.MailOrder of the seat: for every input the law returns true; the condition: errors.errorType is as the program lays it. -/
import Derived.Test.YtpmgfdakljjlaabGreatDoorL2B
import Derived.Test.YtpmgfdakljjlaabGreatDoorSxM7
import Derived.Test.YtpmgfdakljjlaabGreatDoorL2Ms
import Derived.Test.YtpmgfdakljjlaabGreatDoorL2Mu
import Derived.Test.YtpmgfdakljjlaabGreatDoorPuMn
import Derived.Test.YtpmgfdakljjlaabGreatDoorPuAlt
set_option linter.unusedVariables false
set_option linter.constructorNameAsVariable false
set_option linter.unusedSimpArgs false
open Go Go.Sx
namespace Go.Proofs.YtpmgfdakljjlaabGreatDoor
open Go.ChangeShapes Go.WideShapes Go.RowKit
set_option maxRecDepth 100000

noncomputable def MailOrder_t : Tree := .call 5 (Go.Sx.L2.yes Go.Sx.L2.f_messuagelaw2_begun).rel [] [] 0 0 (.letL (.lit []) (.letL (.lit []) (.loop [.c (0), .c (0), .c (0), .c (0), .c (0)] [1, 2] (.letI (.cmp .lss (.v 2) (.v 0)) (.ite (.v 7) (.letI (.cmp .lss (.v 2) (.c 30)) (.ite (.v 8) (.need .lss (.v 2) (.v 0) (.need .lss (.v 2) (.v 0) (.letI (.get 0 (.v 2)) (.need .leq (.v 5) (.c 999) (.call 10 (Go.Sx.L2.mSend).rel [.v 5, .v 6, .v 9] [4] 2 1 (.need .lss (.v 2) (.v 0) (.need .lss (.v 2) (.v 0) (.need .leq (.v 3) (.c 999) (.call 11 (Go.Sx.L2.mPut).rel [.v 3, .v 4, .v 9] [3] 2 1 (.letI (.add (.v 2) (.c 1)) (.again [.v 14, .v 12, .v 13, .v 10, .v 11] [6, 5]))))))))))) (.exit (.letI (.cmp .eql (.v 6) (.c 0)) (.ite (.v 9) (.loop [.c (0)] [] (.letI (.cmp .lss (.v 10) (.v 3)) (.ite (.v 11) (.exit (.fail 180)) (.exit (.call 10 (Go.Sx.L2.mSend1).rel [] [] 0 0 (.done [] [])))))) (.loop [.c (0), .c (0), .v 5, .v 6] [] (.letI (.cmp .lss (.v 10) (.v 3)) (.ite (.v 14) (.letI (.cmp .eql (.v 12) (.c 0)) (.ite (.v 15) (.exit (.fail 180)) (.need .lss (.v 11) (.v 5) (.letI (.get 4 (.v 11)) (.need .leq (.v 12) (.v 13) (.letI (.sub (.v 12) (.c 1)) (.letI (.cmp .eql (.v 13) (.c 1)) (.ite (.v 18) (.need .lss (.v 10) (.v 3) (.need .lss (.v 10) (.v 3) (.letI (.get 3 (.v 10)) (.letI (.cmp .neq (.v 16) (.v 19)) (.ite (.v 20) (.exit (.fail 180)) (.letI (.sub (.v 3) (.v 10)) (.letI (.sub (.v 21) (.c 1)) (.letI (.cmp .neq (.v 17) (.v 22)) (.ite (.v 23) (.exit (.fail 180)) (.letI (.add (.v 10) (.c 1)) (.need .leq (.v 24) (.c 1000) (.again [.v 24, .v 11, .v 17, .c (0)] [])))))))))))) (.letI (.add (.v 11) (.c 1)) (.letI (.sub (.v 13) (.c 1)) (.need .lss (.v 10) (.v 3) (.need .lss (.v 10) (.v 3) (.letI (.get 3 (.v 10)) (.letI (.cmp .neq (.v 16) (.v 21)) (.ite (.v 22) (.exit (.fail 180)) (.letI (.sub (.v 3) (.v 10)) (.letI (.sub (.v 23) (.c 1)) (.letI (.cmp .neq (.v 17) (.v 24)) (.ite (.v 25) (.exit (.fail 180)) (.letI (.add (.v 10) (.c 1)) (.need .leq (.v 26) (.c 1000) (.again [.v 26, .v 19, .v 17, .v 20] [])))))))))))))))))))))) (.exit (.letI (.cmp .eql (.v 12) (.c 0)) (.ite (.v 15) (.call 10 (Go.Sx.L2.mSend1).rel [] [] 0 0 (.done [] [])) (.need .lss (.v 11) (.v 5) (.letI (.get 4 (.v 11)) (.need .leq (.v 12) (.v 13) (.letI (.sub (.v 12) (.c 1)) (.letI (.cmp .eql (.v 13) (.c 1)) (.ite (.v 18) (.fail 180) (.letI (.add (.v 11) (.c 1)) (.letI (.sub (.v 13) (.c 1)) (.fail 180)))))))))))))))))))) (.exit (.letI (.cmp .eql (.v 6) (.c 0)) (.ite (.v 8) (.loop [.c (0)] [] (.letI (.cmp .lss (.v 9) (.v 3)) (.ite (.v 10) (.exit (.fail 180)) (.exit (.call 10 (Go.Sx.L2.mSend1).rel [] [] 0 0 (.done [] [])))))) (.loop [.c (0), .c (0), .v 5, .v 6] [] (.letI (.cmp .lss (.v 9) (.v 3)) (.ite (.v 13) (.letI (.cmp .eql (.v 11) (.c 0)) (.ite (.v 14) (.exit (.fail 180)) (.need .lss (.v 10) (.v 5) (.letI (.get 4 (.v 10)) (.need .leq (.v 11) (.v 12) (.letI (.sub (.v 11) (.c 1)) (.letI (.cmp .eql (.v 12) (.c 1)) (.ite (.v 17) (.need .lss (.v 9) (.v 3) (.need .lss (.v 9) (.v 3) (.letI (.get 3 (.v 9)) (.letI (.cmp .neq (.v 15) (.v 18)) (.ite (.v 19) (.exit (.fail 180)) (.letI (.sub (.v 3) (.v 9)) (.letI (.sub (.v 20) (.c 1)) (.letI (.cmp .neq (.v 16) (.v 21)) (.ite (.v 22) (.exit (.fail 180)) (.letI (.add (.v 9) (.c 1)) (.need .leq (.v 23) (.c 1000) (.again [.v 23, .v 10, .v 16, .c (0)] [])))))))))))) (.letI (.add (.v 10) (.c 1)) (.letI (.sub (.v 12) (.c 1)) (.need .lss (.v 9) (.v 3) (.need .lss (.v 9) (.v 3) (.letI (.get 3 (.v 9)) (.letI (.cmp .neq (.v 15) (.v 20)) (.ite (.v 21) (.exit (.fail 180)) (.letI (.sub (.v 3) (.v 9)) (.letI (.sub (.v 22) (.c 1)) (.letI (.cmp .neq (.v 16) (.v 23)) (.ite (.v 24) (.exit (.fail 180)) (.letI (.add (.v 9) (.c 1)) (.need .leq (.v 25) (.c 1000) (.again [.v 25, .v 18, .v 16, .v 19] [])))))))))))))))))))))) (.exit (.letI (.cmp .eql (.v 11) (.c 0)) (.ite (.v 14) (.call 10 (Go.Sx.L2.mSend1).rel [] [] 0 0 (.done [] [])) (.need .lss (.v 10) (.v 5) (.letI (.get 4 (.v 10)) (.need .leq (.v 11) (.v 12) (.letI (.sub (.v 11) (.c 1)) (.letI (.cmp .eql (.v 12) (.c 1)) (.ite (.v 17) (.fail 180) (.letI (.add (.v 10) (.c 1)) (.letI (.sub (.v 12) (.c 1)) (.fail 180)))))))))))))))))))))))
theorem MailOrder_tree : (lawSpec L2.f_messuagelaw2_MailOrder [.slc [.i .u64]]).exe Tryz.prog (withA (withS (L2.cfgB Tryz.prog) [L2.mPut]) L2.f_mail_Mail_Send [L2.mSend, L2.mSend1]) [{ f := L2.f_messuagelaw2_MailOrder, reg := 7, ints := [(6, 0, 30)], vecs := [(5, some (0, 18446744073709551615))], cvecs := [(4, [0], 1, some (0, 18446744073709551615))], nils := [(5, [.i .u64], L2.t_u64)], cnils := [(4, [0], 1, [.i .u64], L2.t_u64)] }, { f := L2.f_messuagelaw2_MailOrder, reg := 13, ints := [(41, 0, 1000)], cslcs := [(4, [0], 1)] }] 20 200 = MailOrder_t := by kernel_rfl
theorem MailOrder_vc (Q : List Int → List (List Int) → Prop) (v0 v1 : Int) (L0 : List Int) : MailOrder_t.dn ⟨Q, []⟩ 2 [v1, v0] 1 [L0] = ((Go.Sx.L2.yes Go.Sx.L2.f_messuagelaw2_begun).rel.pre [] [] ∧
((Go.Sx.L2.yes Go.Sx.L2.f_messuagelaw2_begun).rel.post [] [] [] [] → ∀ L1 : List Int, L1 = [] → ∀ L2 : List Int, L2 = [] → ∃ (I0 : List Int → List (List Int) → Prop) (μ0 : List Int → List (List Int) → Nat), I0 [(0 : Int), (0 : Int), (0 : Int), (0 : Int), (0 : Int)] [L1, L2] ∧
(∀ v2 : Int, ∀ v3 : Int, ∀ v4 : Int, ∀ v5 : Int, ∀ v6 : Int, ∀ L3 : List Int, ∀ L4 : List Int, I0 [v2, v3, v4, v5, v6] [L3, L4] →
 ((v2 < v0) → ((v2 < (30 : Int)) → (v2 < v0) ∧ (v2 < v0) ∧ ∀ v9 : Int, v9 = (L0).getD (v2).toNat 0 → (v5 ≤ (999 : Int)) ∧ (Go.Sx.L2.mSend).rel.pre [v5, v6, v9] [L4] ∧
(∀ v10 : Int, ∀ v11 : Int, ∀ L5 : List Int, (Go.Sx.L2.mSend).rel.post [v5, v6, v9] [L4] [v10, v11] [L5] → (v2 < v0) ∧ (v2 < v0) ∧ (v3 ≤ (999 : Int)) ∧ (Go.Sx.L2.mPut).rel.pre [v3, v4, v9] [L3] ∧
(∀ v12 : Int, ∀ v13 : Int, ∀ L6 : List Int, (Go.Sx.L2.mPut).rel.post [v3, v4, v9] [L3] [v12, v13] [L6] → ∀ v14 : Int, v14 = v2 + (1 : Int) → (I0 [v14, v12, v13, v10, v11] [L6, L5] ∧ μ0 [v14, v12, v13, v10, v11] [L6, L5] < μ0 [v2, v3, v4, v5, v6] [L3, L4])))) ∧
(((30 : Int) ≤ v2) → ((v6 = (0 : Int)) → ∃ (I1 : List Int → List (List Int) → Prop) (μ1 : List Int → List (List Int) → Nat), I1 [(0 : Int)] [] ∧
(∀ v10 : Int, I1 [v10] [] →
 ((v10 < v3) → False) ∧
((v3 ≤ v10) → (Go.Sx.L2.mSend1).rel.pre [] [] ∧
((Go.Sx.L2.mSend1).rel.post [] [] [] [] → Q [] [])))) ∧
((v6 ≠ (0 : Int)) → ∃ (I1 : List Int → List (List Int) → Prop) (μ1 : List Int → List (List Int) → Nat), I1 [(0 : Int), (0 : Int), v5, v6] [] ∧
(∀ v10 : Int, ∀ v11 : Int, ∀ v12 : Int, ∀ v13 : Int, I1 [v10, v11, v12, v13] [] →
 ((v10 < v3) → ((v12 = (0 : Int)) → False) ∧
((v12 ≠ (0 : Int)) → (v11 < v5) ∧ ∀ v16 : Int, v16 = (L4).getD (v11).toNat 0 → (v12 ≤ v13) ∧ ∀ v17 : Int, v17 = v12 - (1 : Int) → ((v13 = (1 : Int)) → (v10 < v3) ∧ (v10 < v3) ∧ ∀ v19 : Int, v19 = (L3).getD (v10).toNat 0 → ((v16 ≠ v19) → False) ∧
((v16 = v19) → ∀ v21 : Int, v21 = v3 - v10 → ∀ v22 : Int, v22 = v21 - (1 : Int) → ((v17 ≠ v22) → False) ∧
((v17 = v22) → ∀ v24 : Int, v24 = v10 + (1 : Int) → (v24 ≤ (1000 : Int)) ∧ (I1 [v24, v11, v17, (0 : Int)] [] ∧ μ1 [v24, v11, v17, (0 : Int)] [] < μ1 [v10, v11, v12, v13] [])))) ∧
((v13 ≠ (1 : Int)) → ∀ v19 : Int, v19 = v11 + (1 : Int) → ∀ v20 : Int, v20 = v13 - (1 : Int) → (v10 < v3) ∧ (v10 < v3) ∧ ∀ v21 : Int, v21 = (L3).getD (v10).toNat 0 → ((v16 ≠ v21) → False) ∧
((v16 = v21) → ∀ v23 : Int, v23 = v3 - v10 → ∀ v24 : Int, v24 = v23 - (1 : Int) → ((v17 ≠ v24) → False) ∧
((v17 = v24) → ∀ v26 : Int, v26 = v10 + (1 : Int) → (v26 ≤ (1000 : Int)) ∧ (I1 [v26, v19, v17, v20] [] ∧ μ1 [v26, v19, v17, v20] [] < μ1 [v10, v11, v12, v13] [])))))) ∧
((v3 ≤ v10) → ((v12 = (0 : Int)) → (Go.Sx.L2.mSend1).rel.pre [] [] ∧
((Go.Sx.L2.mSend1).rel.post [] [] [] [] → Q [] [])) ∧
((v12 ≠ (0 : Int)) → (v11 < v5) ∧ ∀ v16 : Int, v16 = (L4).getD (v11).toNat 0 → (v12 ≤ v13) ∧ ∀ v17 : Int, v17 = v12 - (1 : Int) → ((v13 = (1 : Int)) → False) ∧
((v13 ≠ (1 : Int)) → ∀ v19 : Int, v19 = v11 + (1 : Int) → ∀ v20 : Int, v20 = v13 - (1 : Int) → False))))))) ∧
((v0 ≤ v2) → ((v6 = (0 : Int)) → ∃ (I1 : List Int → List (List Int) → Prop) (μ1 : List Int → List (List Int) → Nat), I1 [(0 : Int)] [] ∧
(∀ v9 : Int, I1 [v9] [] →
 ((v9 < v3) → False) ∧
((v3 ≤ v9) → (Go.Sx.L2.mSend1).rel.pre [] [] ∧
((Go.Sx.L2.mSend1).rel.post [] [] [] [] → Q [] [])))) ∧
((v6 ≠ (0 : Int)) → ∃ (I1 : List Int → List (List Int) → Prop) (μ1 : List Int → List (List Int) → Nat), I1 [(0 : Int), (0 : Int), v5, v6] [] ∧
(∀ v9 : Int, ∀ v10 : Int, ∀ v11 : Int, ∀ v12 : Int, I1 [v9, v10, v11, v12] [] →
 ((v9 < v3) → ((v11 = (0 : Int)) → False) ∧
((v11 ≠ (0 : Int)) → (v10 < v5) ∧ ∀ v15 : Int, v15 = (L4).getD (v10).toNat 0 → (v11 ≤ v12) ∧ ∀ v16 : Int, v16 = v11 - (1 : Int) → ((v12 = (1 : Int)) → (v9 < v3) ∧ (v9 < v3) ∧ ∀ v18 : Int, v18 = (L3).getD (v9).toNat 0 → ((v15 ≠ v18) → False) ∧
((v15 = v18) → ∀ v20 : Int, v20 = v3 - v9 → ∀ v21 : Int, v21 = v20 - (1 : Int) → ((v16 ≠ v21) → False) ∧
((v16 = v21) → ∀ v23 : Int, v23 = v9 + (1 : Int) → (v23 ≤ (1000 : Int)) ∧ (I1 [v23, v10, v16, (0 : Int)] [] ∧ μ1 [v23, v10, v16, (0 : Int)] [] < μ1 [v9, v10, v11, v12] [])))) ∧
((v12 ≠ (1 : Int)) → ∀ v18 : Int, v18 = v10 + (1 : Int) → ∀ v19 : Int, v19 = v12 - (1 : Int) → (v9 < v3) ∧ (v9 < v3) ∧ ∀ v20 : Int, v20 = (L3).getD (v9).toNat 0 → ((v15 ≠ v20) → False) ∧
((v15 = v20) → ∀ v22 : Int, v22 = v3 - v9 → ∀ v23 : Int, v23 = v22 - (1 : Int) → ((v16 ≠ v23) → False) ∧
((v16 = v23) → ∀ v25 : Int, v25 = v9 + (1 : Int) → (v25 ≤ (1000 : Int)) ∧ (I1 [v25, v18, v16, v19] [] ∧ μ1 [v25, v18, v16, v19] [] < μ1 [v9, v10, v11, v12] [])))))) ∧
((v3 ≤ v9) → ((v11 = (0 : Int)) → (Go.Sx.L2.mSend1).rel.pre [] [] ∧
((Go.Sx.L2.mSend1).rel.post [] [] [] [] → Q [] [])) ∧
((v11 ≠ (0 : Int)) → (v10 < v5) ∧ ∀ v15 : Int, v15 = (L4).getD (v10).toNat 0 → (v11 ≤ v12) ∧ ∀ v16 : Int, v16 = v11 - (1 : Int) → ((v12 = (1 : Int)) → False) ∧
((v12 ≠ (1 : Int)) → ∀ v18 : Int, v18 = v10 + (1 : Int) → ∀ v19 : Int, v19 = v12 - (1 : Int) → False))))))))) := by kernel_rfl
set_option maxHeartbeats 4000000 in
theorem mailOrder_holds0 : (lawSpec L2.f_messuagelaw2_MailOrder [.slc [.i .u64]]).Holds Tryz.prog L2.ro := FSpec.holdsV (cfg := withA (withS (L2.cfgB Tryz.prog) [L2.mPut]) L2.f_mail_Mail_Send [L2.mSend, L2.mSend1]) [{ f := L2.f_messuagelaw2_MailOrder, reg := 7, ints := [(6, 0, 30)], vecs := [(5, some (0, 18446744073709551615))], cvecs := [(4, [0], 1, some (0, 18446744073709551615))], nils := [(5, [.i .u64], L2.t_u64)], cnils := [(4, [0], 1, [.i .u64], L2.t_u64)] }, { f := L2.f_messuagelaw2_MailOrder, reg := 13, ints := [(41, 0, 1000)], cslcs := [(4, [0], 1)] }] 20 200 (withA_ok (withS_ok cfgB_ok ⟨mPut_holds, trivial⟩) (fun s hs => by
  simp only [List.mem_cons, List.not_mem_nil, or_false] at hs
  rcases hs with rfl | rfl <;> rfl) ⟨mSend_holds, mSend1_holds, trivial⟩) mixed (t := MailOrder_t) MailOrder_tree (by
  show ∀ (v0 v1 : Int) (L0 : List Int), _
  intro v0 v1 L0 hp hr hl
  replace hr : ((0 : Int) ≤ v0 ∧ v0 ≤ (9223372036854775807 : Int)) ∧ ((0 : Int) ≤ v1 ∧ v1 ≤ (9223372036854775807 : Int)) ∧ True := hr
  replace hp : (True ∧ ((0 : Int) ≤ v0 ∧ v0 ≤ v1 ∧ (L0.length : Int) = v0 * ((1 : Nat) : Int) ∧ ((1 : Nat) ≠ 1 → [v0, v1].getD 2 0 = v0 * ((1 : Nat) : Int)) ∧ ∀ j, j < L0.length → ((oneKind [.i .u64]).getD (j % (oneKind [.i .u64]).length) (.i .i64)).lo ≤ L0.getD j 0 ∧ L0.getD j 0 ≤ ((oneKind [.i .u64]).getD (j % (oneKind [.i .u64]).length) (.i .i64)).hi)) := hp
  show MailOrder_t.dn ⟨_, []⟩ 2 [v1, v0] 1 [L0]
  rw [MailOrder_vc]
  show ((L2.yes L2.f_messuagelaw2_begun).rel.pre [] [] ∧ _)
  refine ⟨trivial, fun _ => ?_⟩
  intro A0 eA B0 eB
  subst eA
  subst eB
  refine ⟨fun xs ys => match xs, ys with | [i, lw, cw, lm, cm], [W, M] => 0 ≤ i ∧ i ≤ 30 ∧ W = M ∧ Asc M ∧ (M.length : Int) = lw ∧ lm = lw ∧ lw ≤ cw ∧ lm ≤ cm ∧ lw ≤ i | _, _ => False, fun xs _ => match xs with | i :: _ => (30 - i).toNat | _ => 0, ?_, ?_⟩ <;> dsimp only
  · exact ⟨by omega, by omega, rfl, List.Pairwise.nil, rfl, rfl, by omega, by omega, by omega⟩
  · intro i lw cw lm cm W M hI
    obtain ⟨i0, i30, rfl, hA, hM, hml, hcw, hcm, hli⟩ := hI
    refine ⟨fun c1 => ⟨fun c2 => ?_, fun c2 => ?_⟩, fun c1 => ?_⟩
    · refine ⟨c1, c1, fun v9 e9 => ⟨by omega, ⟨⟨hM.trans hml.symm, hcm⟩, hA⟩, fun v10 v11 L5 q => ⟨c1, c1, by omega, ⟨⟨hM, hcw⟩, hA⟩, fun v12 v13 L6 r v14 e14 => ?_⟩⟩⟩
      have q1 : v10 = ((putA W v9).length : Int) := q.1
      have q2 : v10 ≤ v11 := q.2.1
      have q3 : L5 = putA W v9 := (List.cons.inj q.2.2).1
      have r1 : v12 = ((putA W v9).length : Int) := r.1
      have r2 : v12 ≤ v13 := r.2.1
      have r3 : L6 = putA W v9 := (List.cons.inj r.2.2).1
      have hl := putA_len W v9
      have hl' : (putA W v9).length ≤ W.length + 1 := by rw [hl]; split <;> omega
      refine ⟨⟨by omega, by omega, by rw [r3, q3], by rw [q3]; exact putA_asc hA v9, by rw [q3]; exact r1.symm, by omega, r2, q2, by omega⟩, by omega⟩
    ·
      refine ⟨fun z => ?_, fun z => ?_⟩
      · refine ⟨fun xs _ => match xs with | [k] => 0 ≤ k | _ => False, fun _ _ => 0, ?_, ?_⟩ <;> dsimp only
        · omega
        · intro k hk
          exact ⟨fun c => by omega, fun _ => ⟨trivial, fun _ => trivial⟩⟩
      · refine ⟨fun xs _ => match xs with | [i, o, l, c] => 0 ≤ i ∧ i ≤ lw ∧ l = lw - i ∧ l ≤ c ∧ (l ≠ 0 → o = i) | _ => False, fun xs _ => match xs with | i :: _ => (lw - i).toNat | _ => 0, ?_, ?_⟩ <;> dsimp only
        · exact ⟨by omega, by omega, by omega, by omega, fun _ => rfl⟩
        · intro i o l cc hI
          obtain ⟨h0, h1, h2, h3, h4⟩ := hI
          refine ⟨fun c => ⟨fun d => by omega, fun d => ?_⟩, fun c => ⟨fun _ => ⟨trivial, fun _ => trivial⟩, fun d => by omega⟩⟩
          have ho : o = i := h4 (by omega)
          refine ⟨by omega, fun x ex => ⟨by omega, fun y ey => ⟨fun d => ⟨c, c, fun z ez => ?_⟩, fun d o' eo c' ec => ⟨c, c, fun z ez => ?_⟩⟩⟩⟩
          · have hxz : x = z := by rw [ex, ez, ho]
            exact ⟨fun k => k hxz, fun _ a ea b eb => ⟨fun k => absurd k (by omega), fun _ j ej => ⟨by omega, ⟨by omega, by omega, by omega, by omega, fun k => absurd k (by omega)⟩, by omega⟩⟩⟩
          · have hxz : x = z := by rw [ex, ez, ho]
            exact ⟨fun k => k hxz, fun _ a ea b eb => ⟨fun k => absurd k (by omega), fun _ j ej => ⟨by omega, ⟨by omega, by omega, by omega, by omega, fun _ => by omega⟩, by omega⟩⟩⟩
    ·
      refine ⟨fun z => ?_, fun z => ?_⟩
      · refine ⟨fun xs _ => match xs with | [k] => 0 ≤ k | _ => False, fun _ _ => 0, ?_, ?_⟩ <;> dsimp only
        · omega
        · intro k hk
          exact ⟨fun c => by omega, fun _ => ⟨trivial, fun _ => trivial⟩⟩
      · refine ⟨fun xs _ => match xs with | [i, o, l, c] => 0 ≤ i ∧ i ≤ lw ∧ l = lw - i ∧ l ≤ c ∧ (l ≠ 0 → o = i) | _ => False, fun xs _ => match xs with | i :: _ => (lw - i).toNat | _ => 0, ?_, ?_⟩ <;> dsimp only
        · exact ⟨by omega, by omega, by omega, by omega, fun _ => rfl⟩
        · intro i o l cc hI
          obtain ⟨h0, h1, h2, h3, h4⟩ := hI
          refine ⟨fun c => ⟨fun d => by omega, fun d => ?_⟩, fun c => ⟨fun _ => ⟨trivial, fun _ => trivial⟩, fun d => by omega⟩⟩
          have ho : o = i := h4 (by omega)
          refine ⟨by omega, fun x ex => ⟨by omega, fun y ey => ⟨fun d => ⟨c, c, fun z ez => ?_⟩, fun d o' eo c' ec => ⟨c, c, fun z ez => ?_⟩⟩⟩⟩
          · have hxz : x = z := by rw [ex, ez, ho]
            exact ⟨fun k => k hxz, fun _ a ea b eb => ⟨fun k => absurd k (by omega), fun _ j ej => ⟨by omega, ⟨by omega, by omega, by omega, by omega, fun k => absurd k (by omega)⟩, by omega⟩⟩⟩
          · have hxz : x = z := by rw [ex, ez, ho]
            exact ⟨fun k => k hxz, fun _ a ea b eb => ⟨fun k => absurd k (by omega), fun _ j ej => ⟨by omega, ⟨by omega, by omega, by omega, by omega, fun _ => by omega⟩, by omega⟩⟩⟩)
theorem mailOrder_holds : ((lawSpec L2.f_messuagelaw2_MailOrder [.slc [.i .u64]]).withPre fun _ => True).Holds Tryz.prog L2.ro := holds_withPre _ mailOrder_holds0

noncomputable def MailOrder_n_t : Tree := .call 5 (Go.Sx.L2.yes Go.Sx.L2.f_messuagelaw2_begun).rel [] [] 0 0 (.letL (.lit []) (.letL (.lit []) (.loop [.c (0), .c (0), .c (0), .c (0), .c (0)] [0, 1] (.exit (.letI (.cmp .eql (.v 4) (.c 0)) (.ite (.v 5) (.loop [.c (0)] [] (.letI (.cmp .lss (.v 6) (.v 1)) (.ite (.v 7) (.exit (.fail 180)) (.exit (.call 10 (Go.Sx.L2.mSend1).rel [] [] 0 0 (.done [] [])))))) (.loop [.c (0), .c (0), .v 3, .v 4] [] (.letI (.cmp .lss (.v 6) (.v 1)) (.ite (.v 10) (.letI (.cmp .eql (.v 8) (.c 0)) (.ite (.v 11) (.exit (.fail 180)) (.need .lss (.v 7) (.v 3) (.letI (.get 3 (.v 7)) (.need .leq (.v 8) (.v 9) (.letI (.sub (.v 8) (.c 1)) (.letI (.cmp .eql (.v 9) (.c 1)) (.ite (.v 14) (.need .lss (.v 6) (.v 1) (.need .lss (.v 6) (.v 1) (.letI (.get 2 (.v 6)) (.letI (.cmp .neq (.v 12) (.v 15)) (.ite (.v 16) (.exit (.fail 180)) (.letI (.sub (.v 1) (.v 6)) (.letI (.sub (.v 17) (.c 1)) (.letI (.cmp .neq (.v 13) (.v 18)) (.ite (.v 19) (.exit (.fail 180)) (.letI (.add (.v 6) (.c 1)) (.need .leq (.v 20) (.c 1000) (.again [.v 20, .v 7, .v 13, .c (0)] [])))))))))))) (.letI (.add (.v 7) (.c 1)) (.letI (.sub (.v 9) (.c 1)) (.need .lss (.v 6) (.v 1) (.need .lss (.v 6) (.v 1) (.letI (.get 2 (.v 6)) (.letI (.cmp .neq (.v 12) (.v 17)) (.ite (.v 18) (.exit (.fail 180)) (.letI (.sub (.v 1) (.v 6)) (.letI (.sub (.v 19) (.c 1)) (.letI (.cmp .neq (.v 13) (.v 20)) (.ite (.v 21) (.exit (.fail 180)) (.letI (.add (.v 6) (.c 1)) (.need .leq (.v 22) (.c 1000) (.again [.v 22, .v 15, .v 13, .v 16] [])))))))))))))))))))))) (.exit (.letI (.cmp .eql (.v 8) (.c 0)) (.ite (.v 11) (.call 10 (Go.Sx.L2.mSend1).rel [] [] 0 0 (.done [] [])) (.need .lss (.v 7) (.v 3) (.letI (.get 3 (.v 7)) (.need .leq (.v 8) (.v 9) (.letI (.sub (.v 8) (.c 1)) (.letI (.cmp .eql (.v 9) (.c 1)) (.ite (.v 14) (.fail 180) (.letI (.add (.v 7) (.c 1)) (.letI (.sub (.v 9) (.c 1)) (.fail 180)))))))))))))))))))))
theorem MailOrder_n_tree : (lawSpec L2.f_messuagelaw2_MailOrder [.nil]).exe Tryz.prog (withA (withS (L2.cfgB Tryz.prog) [L2.mPut]) L2.f_mail_Mail_Send [L2.mSend, L2.mSend1]) [{ f := L2.f_messuagelaw2_MailOrder, reg := 7, ints := [(6, 0, 30)], vecs := [(5, some (0, 18446744073709551615))], cvecs := [(4, [0], 1, some (0, 18446744073709551615))], nils := [(5, [.i .u64], L2.t_u64)], cnils := [(4, [0], 1, [.i .u64], L2.t_u64)] }, { f := L2.f_messuagelaw2_MailOrder, reg := 13, ints := [(41, 0, 1000)], cslcs := [(4, [0], 1)] }] 20 200 = MailOrder_n_t := by kernel_rfl
theorem MailOrder_n_vc (Q : List Int → List (List Int) → Prop) : MailOrder_n_t.dn ⟨Q, []⟩ 0 [] 0 [] = ((Go.Sx.L2.yes Go.Sx.L2.f_messuagelaw2_begun).rel.pre [] [] ∧
((Go.Sx.L2.yes Go.Sx.L2.f_messuagelaw2_begun).rel.post [] [] [] [] → ∀ L0 : List Int, L0 = [] → ∀ L1 : List Int, L1 = [] → ∃ (I0 : List Int → List (List Int) → Prop) (μ0 : List Int → List (List Int) → Nat), I0 [(0 : Int), (0 : Int), (0 : Int), (0 : Int), (0 : Int)] [L0, L1] ∧
(∀ v0 : Int, ∀ v1 : Int, ∀ v2 : Int, ∀ v3 : Int, ∀ v4 : Int, ∀ L2 : List Int, ∀ L3 : List Int, I0 [v0, v1, v2, v3, v4] [L2, L3] →
 ((v4 = (0 : Int)) → ∃ (I1 : List Int → List (List Int) → Prop) (μ1 : List Int → List (List Int) → Nat), I1 [(0 : Int)] [] ∧
(∀ v6 : Int, I1 [v6] [] →
 ((v6 < v1) → False) ∧
((v1 ≤ v6) → (Go.Sx.L2.mSend1).rel.pre [] [] ∧
((Go.Sx.L2.mSend1).rel.post [] [] [] [] → Q [] [])))) ∧
((v4 ≠ (0 : Int)) → ∃ (I1 : List Int → List (List Int) → Prop) (μ1 : List Int → List (List Int) → Nat), I1 [(0 : Int), (0 : Int), v3, v4] [] ∧
(∀ v6 : Int, ∀ v7 : Int, ∀ v8 : Int, ∀ v9 : Int, I1 [v6, v7, v8, v9] [] →
 ((v6 < v1) → ((v8 = (0 : Int)) → False) ∧
((v8 ≠ (0 : Int)) → (v7 < v3) ∧ ∀ v12 : Int, v12 = (L3).getD (v7).toNat 0 → (v8 ≤ v9) ∧ ∀ v13 : Int, v13 = v8 - (1 : Int) → ((v9 = (1 : Int)) → (v6 < v1) ∧ (v6 < v1) ∧ ∀ v15 : Int, v15 = (L2).getD (v6).toNat 0 → ((v12 ≠ v15) → False) ∧
((v12 = v15) → ∀ v17 : Int, v17 = v1 - v6 → ∀ v18 : Int, v18 = v17 - (1 : Int) → ((v13 ≠ v18) → False) ∧
((v13 = v18) → ∀ v20 : Int, v20 = v6 + (1 : Int) → (v20 ≤ (1000 : Int)) ∧ (I1 [v20, v7, v13, (0 : Int)] [] ∧ μ1 [v20, v7, v13, (0 : Int)] [] < μ1 [v6, v7, v8, v9] [])))) ∧
((v9 ≠ (1 : Int)) → ∀ v15 : Int, v15 = v7 + (1 : Int) → ∀ v16 : Int, v16 = v9 - (1 : Int) → (v6 < v1) ∧ (v6 < v1) ∧ ∀ v17 : Int, v17 = (L2).getD (v6).toNat 0 → ((v12 ≠ v17) → False) ∧
((v12 = v17) → ∀ v19 : Int, v19 = v1 - v6 → ∀ v20 : Int, v20 = v19 - (1 : Int) → ((v13 ≠ v20) → False) ∧
((v13 = v20) → ∀ v22 : Int, v22 = v6 + (1 : Int) → (v22 ≤ (1000 : Int)) ∧ (I1 [v22, v15, v13, v16] [] ∧ μ1 [v22, v15, v13, v16] [] < μ1 [v6, v7, v8, v9] [])))))) ∧
((v1 ≤ v6) → ((v8 = (0 : Int)) → (Go.Sx.L2.mSend1).rel.pre [] [] ∧
((Go.Sx.L2.mSend1).rel.post [] [] [] [] → Q [] [])) ∧
((v8 ≠ (0 : Int)) → (v7 < v3) ∧ ∀ v12 : Int, v12 = (L3).getD (v7).toNat 0 → (v8 ≤ v9) ∧ ∀ v13 : Int, v13 = v8 - (1 : Int) → ((v9 = (1 : Int)) → False) ∧
((v9 ≠ (1 : Int)) → ∀ v15 : Int, v15 = v7 + (1 : Int) → ∀ v16 : Int, v16 = v9 - (1 : Int) → False)))))))) := by kernel_rfl
set_option maxHeartbeats 4000000 in
theorem mailOrder_holds_n0 : (lawSpec L2.f_messuagelaw2_MailOrder [.nil]).Holds Tryz.prog L2.ro := FSpec.holdsV (cfg := withA (withS (L2.cfgB Tryz.prog) [L2.mPut]) L2.f_mail_Mail_Send [L2.mSend, L2.mSend1]) [{ f := L2.f_messuagelaw2_MailOrder, reg := 7, ints := [(6, 0, 30)], vecs := [(5, some (0, 18446744073709551615))], cvecs := [(4, [0], 1, some (0, 18446744073709551615))], nils := [(5, [.i .u64], L2.t_u64)], cnils := [(4, [0], 1, [.i .u64], L2.t_u64)] }, { f := L2.f_messuagelaw2_MailOrder, reg := 13, ints := [(41, 0, 1000)], cslcs := [(4, [0], 1)] }] 20 200 (withA_ok (withS_ok cfgB_ok ⟨mPut_holds, trivial⟩) (fun s hs => by
  simp only [List.mem_cons, List.not_mem_nil, or_false] at hs
  rcases hs with rfl | rfl <;> rfl) ⟨mSend_holds, mSend1_holds, trivial⟩) mixed (t := MailOrder_n_t) MailOrder_n_tree (by
  show _ → _
  intro   hp hr hl
  replace hr : True := hr
  replace hp : True := hp
  show MailOrder_n_t.dn ⟨_, []⟩ 0 [] 0 []
  rw [MailOrder_n_vc]
  show ((L2.yes L2.f_messuagelaw2_begun).rel.pre [] [] ∧ _)
  refine ⟨trivial, fun _ => ?_⟩
  intro A0 eA B0 eB
  subst eA
  subst eB
  refine ⟨fun xs ys => match xs, ys with | [i, lw, cw, lm, cm], [W, M] => 0 ≤ i ∧ i ≤ 30 ∧ W = M ∧ Asc M ∧ (M.length : Int) = lw ∧ lm = lw ∧ lw ≤ cw ∧ lm ≤ cm ∧ lw ≤ i | _, _ => False, fun xs _ => match xs with | i :: _ => (30 - i).toNat | _ => 0, ?_, ?_⟩ <;> dsimp only
  · exact ⟨by omega, by omega, rfl, List.Pairwise.nil, rfl, rfl, by omega, by omega, by omega⟩
  · intro i lw cw lm cm W M hI
    obtain ⟨i0, i30, rfl, hA, hM, hml, hcw, hcm, hli⟩ := hI
    refine ⟨fun z => ?_, fun z => ?_⟩
    · refine ⟨fun xs _ => match xs with | [k] => 0 ≤ k | _ => False, fun _ _ => 0, ?_, ?_⟩ <;> dsimp only
      · omega
      · intro k hk
        exact ⟨fun c => by omega, fun _ => ⟨trivial, fun _ => trivial⟩⟩
    · refine ⟨fun xs _ => match xs with | [i, o, l, c] => 0 ≤ i ∧ i ≤ lw ∧ l = lw - i ∧ l ≤ c ∧ (l ≠ 0 → o = i) | _ => False, fun xs _ => match xs with | i :: _ => (lw - i).toNat | _ => 0, ?_, ?_⟩ <;> dsimp only
      · exact ⟨by omega, by omega, by omega, by omega, fun _ => rfl⟩
      · intro i o l cc hI
        obtain ⟨h0, h1, h2, h3, h4⟩ := hI
        refine ⟨fun c => ⟨fun d => by omega, fun d => ?_⟩, fun c => ⟨fun _ => ⟨trivial, fun _ => trivial⟩, fun d => by omega⟩⟩
        have ho : o = i := h4 (by omega)
        refine ⟨by omega, fun x ex => ⟨by omega, fun y ey => ⟨fun d => ⟨c, c, fun z ez => ?_⟩, fun d o' eo c' ec => ⟨c, c, fun z ez => ?_⟩⟩⟩⟩
        · have hxz : x = z := by rw [ex, ez, ho]
          exact ⟨fun k => k hxz, fun _ a ea b eb => ⟨fun k => absurd k (by omega), fun _ j ej => ⟨by omega, ⟨by omega, by omega, by omega, by omega, fun k => absurd k (by omega)⟩, by omega⟩⟩⟩
        · have hxz : x = z := by rw [ex, ez, ho]
          exact ⟨fun k => k hxz, fun _ a ea b eb => ⟨fun k => absurd k (by omega), fun _ j ej => ⟨by omega, ⟨by omega, by omega, by omega, by omega, fun _ => by omega⟩, by omega⟩⟩⟩)
theorem mailOrder_holds_n : ((lawSpec L2.f_messuagelaw2_MailOrder [.nil]).withPre fun _ => True).Holds Tryz.prog L2.ro := holds_withPre _ mailOrder_holds_n0

theorem mailOrder_calls {H : Type} {enc : TypeId × Value → H} {W : World} {base : Nat} {args : Array Value} {ds : List (DataW H)} {p : List MemPlace} (hval : ∀ (j : Nat) t v, Tryz.f4.params[j]? = some t → args[j]? = some v → Value.okWide Tryz.prog W .any base t v)
    (hA : DataW.TrodAll enc Tryz.prog W 0 (fun _ => true) true Tryz.f4.params.toList args.toList ds p) (hL : laidMetH Tryz.prog laid1 W) : Calls Tryz.prog 4 args W fun e W' => e = .returned (.bool true) ∧ Go.Sx.Frame ⟨W, [], L2.ro⟩ W' := by
  rw [Tryz.params4] at hA hval
  obtain ⟨v0, d0, rfl, rfl, h0⟩ := trodAll_one hA
  rcases par_flats (base := 0) (f := 9) und35 flat39 cells39 (by decide) (hval 0 35 v0 rfl rfl) h0 with q0 | ⟨e0, q0⟩
  · exact law_calls (mailOrder_holds_n) Tryz.func4 (show Tryz.f4.body = some _ from rfl) (by kernel_rfl) (.cons q0 .none) trivial (ro_of_laid hL)
  · exact law_calls (mailOrder_holds) Tryz.func4 (show Tryz.f4.body = some _ from rfl) (by kernel_rfl) (.cons q0 .none) trivial (ro_of_laid hL)
set_option maxHeartbeats 1000000 in
theorem mailOrder_lifted (os : Os) (started : os.Started) (H : Type) (enc : TypeId × Value → H) :
    ReturnsInHanded {} Tryz.checked os 4 .any (fun w args => (Rows.mailOrderSpec.pre enc Tryz.prog Tryz.f4 [] false w args ∧ laidMetH Tryz.prog laid1 w) ∧ sizedMet enc Tryz.prog Tryz.f4 (OpenSpec.ofChange Rows.mailOrderSpec) false w args)
      (Rows.mailOrderSpec.post enc Tryz.prog Tryz.f4 false true false false) := by
  refine returnsInHanded_of_change_and (C := Tryz.checked) (X := fun w _ => laidMetH Tryz.prog laid1 w) (fun _ _ _ hh h => h.of_heap hh) Tryz.own started (by kernel_rfl) Tryz.func4
    (ChangeSpec.witness_at (enc := enc) (C := Tryz.checked) (os := os) (X := fun w _ => laidMetH Tryz.prog laid1 w) false (laidWorld os) #[.slice none 0 0] 8 rfl (by kernel_rfl) (by kernel_rfl) (by kernel_rfl) (by kernel_rfl) (by kernel_rfl) (laidWorld_met os _)) ?_
  intro W base args ds gs before hval0 hW _ _ hL _
  have hval : ∀ (j : Nat) t v, Tryz.f4.params[j]? = some t → args[j]? = some v → Value.okWide Tryz.prog W .any base t v := hval0
  have hW' := hW
  obtain ⟨p, q, hA0, hV0, rfl, hfz, hnd⟩ := hW
  have hcall := mailOrder_calls (enc := enc) hval hA0 hL
  refine Calls.mono hcall ?_
  rintro e W' ⟨rfl, hfr⟩
  exact ⟨_, rfl, post_kept Tryz.laidOut (by kernel_rfl) rfl rfl und4 hW' hfr (by
    have hg : gs = [] := by cases gs with | nil => rfl | cons g r => exact absurd hV0 (by intro h; cases h)
    subst hg
    have hA1 : DataW.TrodAll enc Tryz.prog W 0 (fun _ => true) true Tryz.f4.params.toList args.toList ds p := hA0
    rw [Tryz.params4] at hA1
    obtain ⟨v0, d0, ea, rfl, h0⟩ := trodAll_one hA1
    rfl)⟩

theorem mailOrder_row : Rows.MailOrderSaid :=
  OpenClaim.holds_of_wide 4 Tryz.f4 rfl rfl rfl rfl rfl rfl rfl ⟨rfl, rfl, rfl, rfl, rfl⟩ rfl rfl rfl rfl rfl (by kernel_rfl) Tryz.func4 (restFacts.2 _ _ _ _ _ Tryz.mayEnter Tryz.liftsFinal Tryz.make (by kernel_rfl))
    (of_decide_eq_true (by kernel_rfl)) (by unfold Func.isWrapper; rw [if_neg (of_decide_eq_false (by kernel_rfl))]; exact ⟨rfl, rfl⟩)
    (fun os started H enc _ => mailOrder_lifted os started H enc)
theorem mailOrder_card : Rows.MailOrderCardSaid :=
  Claim7.holds_tied_plain_at .later [] [.handle] true (true, "e052634f85e3eed01d9e3d4afab97c2ee72a124f300ee5a90da30f1c64bd110e") true
    mailOrder_row (fun _ h => by cases h) (by kernel_rfl) (fun _ h => by cases h) mailOrder_row_tie rfl ⟨rfl, rfl⟩ Tryz.mainIs rfl
    (fun f fn hf hfn => by
      obtain rfl : f = 4 := Option.some.inj ((show Tryz.prog.funcNamed "messuage/messuagelaw2.MailOrder" = some 4 by kernel_rfl).symm.trans hf) |>.symm
      obtain rfl : fn = Tryz.f4 := (Option.some.inj (Tryz.func4.symm.trans hfn)).symm
      exact ⟨by kernel_rfl, fun j t ht => by
        rw [Tryz.params4] at ht
        rcases j with _ | j
        · obtain rfl : 35 = t := by simpa using ht
          exact (show Tryz.prog.wantsStandIn 35 = false by kernel_rfl)
        · simp at ht⟩)
    (by kernel_rfl)
#print axioms mailOrder_card
end Go.Proofs.YtpmgfdakljjlaabGreatDoor
