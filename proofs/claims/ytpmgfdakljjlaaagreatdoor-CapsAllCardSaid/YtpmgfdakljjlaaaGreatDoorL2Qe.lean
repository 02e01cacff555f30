/- Contract: what goes, by the law. -/
import Derived.Test.YtpmgfdakljjlaaaGreatDoorL2Qb
import Derived.Test.YtpmgfdakljjlaaaGreatDoorL2Qd
set_option linter.unusedVariables false
set_option linter.constructorNameAsVariable false
set_option linter.unusedSimpArgs false
open Go Go.Sx
namespace Go.Proofs.YtpmgfdakljjlaaaGreatDoor
set_option maxRecDepth 100000
theorem qe_ok : (withS (L2.cfg Tryz.prog) [L2.rBelow, L2.rGone]).Ok Tryz.prog := withS_ok cfg_ok ⟨rBelow_holds, rGone_holds, trivial⟩
noncomputable def lGone_t : Tree := .call 19 (Go.Sx.L2.rBelow).rel [.v 0, .v 1] [0] 4 1 (.letL (.lit []) (.loop [.c (0), .c (0), .c (0), .c (0), .c (0)] [2] (.letI (.cmp .lss (.v 7) (.c 4)) (.ite (.v 12) (.loop [.c (0), .v 8, .v 9, .v 10, .v 11] [3] (.letI (.cmp .lss (.v 13) (.c 8)) (.ite (.v 18) (.ite (.v 2) (.letI (.cmp .eql (.v 0) (.v 7)) (.letI (.cmp .eql (.v 1) (.v 13)) (.letI (.pick (.v 20) (.c 1) (.c 0)) (.letI (.pick (.v 19) (.v 21) (.c 0)) (.letI (.pick (.v 4) (.v 3) (.c 0)) (.loop [.c (0), .v 22] [] (.letI (.cmp .lss (.v 24) (.v 23)) (.ite (.v 26) (.ite (.v 25) (.letI (.add (.v 24) (.c 1)) (.again [.v 27, .c (1)] [])) (.need .neq (.v 4) (.c 0) (.need .lss (.v 24) (.v 3) (.letI (.mul (.v 24) (.c 2)) (.need .lss (.v 27) (.v 5) (.letI (.get 1 (.v 27)) (.letI (.add (.v 27) (.c 1)) (.need .lss (.v 29) (.v 5) (.letI (.get 1 (.v 29)) (.letI (.cmp .eql (.v 7) (.v 28)) (.letI (.cmp .eql (.v 13) (.v 30)) (.letI (.pick (.v 32) (.c 1) (.c 0)) (.letI (.pick (.v 31) (.v 33) (.c 0)) (.letI (.add (.v 24) (.c 1)) (.again [.v 35, .v 34] []))))))))))))))) (.exit (.ite (.v 25) (.letL (.lit [.v 7, .v 13]) (.letI (.add (.v 14) (.c 1)) (.need .leq (.v 27) (.c 1000000) (.need .leq (.v 14) (.v 15) (.letI (.mul (.v 14) (.c 2)) (.need .leq (.v 28) (.v 16) (.letI (.mul (.v 15) (.c 2)) (.need .eql (.v 29) (.v 17) (.letL (.take 4 (.v 28)) (.letL (.app 6 5) (.any (.v 27) (.c 9223372036854775807) (.letI (.mul (.v 27) (.c 2)) (.letI (.mul (.v 30) (.c 2)) (.letI (.add (.v 13) (.c 1)) (.need .leq (.v 31) (.c 1000000) (.again [.v 33, .v 27, .v 30, .v 31, .v 32] [7])))))))))))))))) (.letI (.add (.v 13) (.c 1)) (.again [.v 27, .v 14, .v 15, .v 16, .v 17] [4])))))))))))) (.letI (.pick (.v 4) (.v 3) (.c 0)) (.loop [.c (0), .c (0)] [] (.letI (.cmp .lss (.v 20) (.v 19)) (.ite (.v 22) (.ite (.v 21) (.letI (.add (.v 20) (.c 1)) (.again [.v 23, .c (1)] [])) (.need .neq (.v 4) (.c 0) (.need .lss (.v 20) (.v 3) (.letI (.mul (.v 20) (.c 2)) (.need .lss (.v 23) (.v 5) (.letI (.get 1 (.v 23)) (.letI (.add (.v 23) (.c 1)) (.need .lss (.v 25) (.v 5) (.letI (.get 1 (.v 25)) (.letI (.cmp .eql (.v 7) (.v 24)) (.letI (.cmp .eql (.v 13) (.v 26)) (.letI (.pick (.v 28) (.c 1) (.c 0)) (.letI (.pick (.v 27) (.v 29) (.c 0)) (.letI (.add (.v 20) (.c 1)) (.again [.v 31, .v 30] []))))))))))))))) (.exit (.ite (.v 21) (.letL (.lit [.v 7, .v 13]) (.letI (.add (.v 14) (.c 1)) (.need .leq (.v 23) (.c 1000000) (.need .leq (.v 14) (.v 15) (.letI (.mul (.v 14) (.c 2)) (.need .leq (.v 24) (.v 16) (.letI (.mul (.v 15) (.c 2)) (.need .eql (.v 25) (.v 17) (.letL (.take 4 (.v 24)) (.letL (.app 6 5) (.any (.v 23) (.c 9223372036854775807) (.letI (.mul (.v 23) (.c 2)) (.letI (.mul (.v 26) (.c 2)) (.letI (.add (.v 13) (.c 1)) (.need .leq (.v 27) (.c 1000000) (.again [.v 29, .v 23, .v 26, .v 27, .v 28] [7])))))))))))))))) (.letI (.add (.v 13) (.c 1)) (.again [.v 23, .v 14, .v 15, .v 16, .v 17] [4]))))))))) (.exit (.letI (.add (.v 7) (.c 1)) (.again [.v 19, .v 14, .v 15, .v 16, .v 17] [4])))))) (.exit (.need .leq (.v 8) (.c 32) (.need .leq (.v 10) (.c 64) (.need .leq (.v 11) (.c 18446744073709551614) (.call 61 (Go.Sx.L2.rGone).rel [.v 8, .v 9, .v 10, .v 11] [0, 3] 0 1 (.done [.v 8, .v 9, .v 10, .v 11] [3, 4]))))))))))
theorem lGone_tree : (L2.lGone).exe Tryz.prog (withS (L2.cfg Tryz.prog) [L2.rBelow, L2.rGone]) [{ f := L2.f_messuagelaw11_gone, reg := 4, ints := [(9, 0, 4)], vecs := [(7, some (0, 7))], nils := [(7, [.i .i64], L2.t_messuageref13_Place)], wide := [7] }, { f := L2.f_messuagelaw11_gone, reg := 7, ints := [(10, 0, 8)], vecs := [(7, some (0, 7))], nils := [(7, [.i .i64], L2.t_messuageref13_Place)], wide := [7] }, { f := L2.f_messuagelaw11_gone, reg := 12, ints := [(36, 0, 32), (12, 0, 1)] }] 20 200 = lGone_t := by kernel_rfl
theorem lGone_vc (Q : List Int → List (List Int) → Prop) (v0 v1 v2 : Int) (L0 : List Int) : lGone_t.dn ⟨Q, []⟩ 3 [v2, v1, v0] 1 [L0] = ((Go.Sx.L2.rBelow).rel.pre [v0, v1] [L0] ∧
(∀ v3 : Int, ∀ v4 : Int, ∀ v5 : Int, ∀ v6 : Int, ∀ L1 : List Int, (Go.Sx.L2.rBelow).rel.post [v0, v1] [L0] [v3, v4, v5, v6] [L1] → ∀ L2 : List Int, L2 = [] → ∃ (I0 : List Int → List (List Int) → Prop) (μ0 : List Int → List (List Int) → Nat), I0 [(0 : Int), (0 : Int), (0 : Int), (0 : Int), (0 : Int)] [L2] ∧
(∀ v7 : Int, ∀ v8 : Int, ∀ v9 : Int, ∀ v10 : Int, ∀ v11 : Int, ∀ L3 : List Int, I0 [v7, v8, v9, v10, v11] [L3] →
 ((v7 < (4 : Int)) → ∃ (I1 : List Int → List (List Int) → Prop) (μ1 : List Int → List (List Int) → Nat), I1 [(0 : Int), v8, v9, v10, v11] [L3] ∧
(∀ v13 : Int, ∀ v14 : Int, ∀ v15 : Int, ∀ v16 : Int, ∀ v17 : Int, ∀ L4 : List Int, I1 [v13, v14, v15, v16, v17] [L4] →
 ((v13 < (8 : Int)) → (v2 ≠ 0 → ∀ v19 : Int, v19 = b2i (v0 == v7) → ∀ v20 : Int, v20 = b2i (v1 == v13) → ∀ v21 : Int, v21 = (if v20 = 0 then (0 : Int) else (1 : Int)) → ∀ v22 : Int, v22 = (if v19 = 0 then (0 : Int) else v21) → ∀ v23 : Int, v23 = (if v4 = 0 then (0 : Int) else v3) → ∃ (I2 : List Int → List (List Int) → Prop) (μ2 : List Int → List (List Int) → Nat), I2 [(0 : Int), v22] [] ∧
(∀ v24 : Int, ∀ v25 : Int, I2 [v24, v25] [] →
 ((v24 < v23) → (v25 ≠ 0 → ∀ v27 : Int, v27 = v24 + (1 : Int) → (I2 [v27, (1 : Int)] [] ∧ μ2 [v27, (1 : Int)] [] < μ2 [v24, v25] [])) ∧
(v25 = 0 → (v4 ≠ (0 : Int)) ∧ (v24 < v3) ∧ ∀ v27 : Int, v27 = v24 * (2 : Int) → (v27 < v5) ∧ ∀ v28 : Int, v28 = (L1).getD (v27).toNat 0 → ∀ v29 : Int, v29 = v27 + (1 : Int) → (v29 < v5) ∧ ∀ v30 : Int, v30 = (L1).getD (v29).toNat 0 → ∀ v31 : Int, v31 = b2i (v7 == v28) → ∀ v32 : Int, v32 = b2i (v13 == v30) → ∀ v33 : Int, v33 = (if v32 = 0 then (0 : Int) else (1 : Int)) → ∀ v34 : Int, v34 = (if v31 = 0 then (0 : Int) else v33) → ∀ v35 : Int, v35 = v24 + (1 : Int) → (I2 [v35, v34] [] ∧ μ2 [v35, v34] [] < μ2 [v24, v25] []))) ∧
((v23 ≤ v24) → (v25 ≠ 0 → ∀ L5 : List Int, L5 = [v7, v13] → ∀ v27 : Int, v27 = v14 + (1 : Int) → (v27 ≤ (1000000 : Int)) ∧ (v14 ≤ v15) ∧ ∀ v28 : Int, v28 = v14 * (2 : Int) → (v28 ≤ v16) ∧ ∀ v29 : Int, v29 = v15 * (2 : Int) → (v29 = v17) ∧ ∀ L6 : List Int, L6 = (L4).take (v28).toNat → ∀ L7 : List Int, L7 = L6 ++ L5 → ∀ v30 : Int, v27 ≤ v30 → v30 ≤ (9223372036854775807 : Int) → ∀ v31 : Int, v31 = v27 * (2 : Int) → ∀ v32 : Int, v32 = v30 * (2 : Int) → ∀ v33 : Int, v33 = v13 + (1 : Int) → (v31 ≤ (1000000 : Int)) ∧ (I1 [v33, v27, v30, v31, v32] [L7] ∧ μ1 [v33, v27, v30, v31, v32] [L7] < μ1 [v13, v14, v15, v16, v17] [L4])) ∧
(v25 = 0 → ∀ v27 : Int, v27 = v13 + (1 : Int) → (I1 [v27, v14, v15, v16, v17] [L4] ∧ μ1 [v27, v14, v15, v16, v17] [L4] < μ1 [v13, v14, v15, v16, v17] [L4]))))) ∧
(v2 = 0 → ∀ v19 : Int, v19 = (if v4 = 0 then (0 : Int) else v3) → ∃ (I2 : List Int → List (List Int) → Prop) (μ2 : List Int → List (List Int) → Nat), I2 [(0 : Int), (0 : Int)] [] ∧
(∀ v20 : Int, ∀ v21 : Int, I2 [v20, v21] [] →
 ((v20 < v19) → (v21 ≠ 0 → ∀ v23 : Int, v23 = v20 + (1 : Int) → (I2 [v23, (1 : Int)] [] ∧ μ2 [v23, (1 : Int)] [] < μ2 [v20, v21] [])) ∧
(v21 = 0 → (v4 ≠ (0 : Int)) ∧ (v20 < v3) ∧ ∀ v23 : Int, v23 = v20 * (2 : Int) → (v23 < v5) ∧ ∀ v24 : Int, v24 = (L1).getD (v23).toNat 0 → ∀ v25 : Int, v25 = v23 + (1 : Int) → (v25 < v5) ∧ ∀ v26 : Int, v26 = (L1).getD (v25).toNat 0 → ∀ v27 : Int, v27 = b2i (v7 == v24) → ∀ v28 : Int, v28 = b2i (v13 == v26) → ∀ v29 : Int, v29 = (if v28 = 0 then (0 : Int) else (1 : Int)) → ∀ v30 : Int, v30 = (if v27 = 0 then (0 : Int) else v29) → ∀ v31 : Int, v31 = v20 + (1 : Int) → (I2 [v31, v30] [] ∧ μ2 [v31, v30] [] < μ2 [v20, v21] []))) ∧
((v19 ≤ v20) → (v21 ≠ 0 → ∀ L5 : List Int, L5 = [v7, v13] → ∀ v23 : Int, v23 = v14 + (1 : Int) → (v23 ≤ (1000000 : Int)) ∧ (v14 ≤ v15) ∧ ∀ v24 : Int, v24 = v14 * (2 : Int) → (v24 ≤ v16) ∧ ∀ v25 : Int, v25 = v15 * (2 : Int) → (v25 = v17) ∧ ∀ L6 : List Int, L6 = (L4).take (v24).toNat → ∀ L7 : List Int, L7 = L6 ++ L5 → ∀ v26 : Int, v23 ≤ v26 → v26 ≤ (9223372036854775807 : Int) → ∀ v27 : Int, v27 = v23 * (2 : Int) → ∀ v28 : Int, v28 = v26 * (2 : Int) → ∀ v29 : Int, v29 = v13 + (1 : Int) → (v27 ≤ (1000000 : Int)) ∧ (I1 [v29, v23, v26, v27, v28] [L7] ∧ μ1 [v29, v23, v26, v27, v28] [L7] < μ1 [v13, v14, v15, v16, v17] [L4])) ∧
(v21 = 0 → ∀ v23 : Int, v23 = v13 + (1 : Int) → (I1 [v23, v14, v15, v16, v17] [L4] ∧ μ1 [v23, v14, v15, v16, v17] [L4] < μ1 [v13, v14, v15, v16, v17] [L4])))))) ∧
(((8 : Int) ≤ v13) → ∀ v19 : Int, v19 = v7 + (1 : Int) → (I0 [v19, v14, v15, v16, v17] [L4] ∧ μ0 [v19, v14, v15, v16, v17] [L4] < μ0 [v7, v8, v9, v10, v11] [L3])))) ∧
(((4 : Int) ≤ v7) → (v8 ≤ (32 : Int)) ∧ (v10 ≤ (64 : Int)) ∧ (v11 ≤ (18446744073709551614 : Int)) ∧ (Go.Sx.L2.rGone).rel.pre [v8, v9, v10, v11] [L0, L3] ∧
(∀ L4 : List Int, (Go.Sx.L2.rGone).rel.post [v8, v9, v10, v11] [L0, L3] [] [L4] → Q [v8, v9, v10, v11] [L3, L4]))))) := by kernel_rfl
set_option maxHeartbeats 4000000 in
theorem lGone_holds : (L2.lGone).Holds Tryz.prog L2.ro := FSpec.holdsV (cfg := withS (L2.cfg Tryz.prog) [L2.rBelow, L2.rGone]) [{ f := L2.f_messuagelaw11_gone, reg := 4, ints := [(9, 0, 4)], vecs := [(7, some (0, 7))], nils := [(7, [.i .i64], L2.t_messuageref13_Place)], wide := [7] }, { f := L2.f_messuagelaw11_gone, reg := 7, ints := [(10, 0, 8)], vecs := [(7, some (0, 7))], nils := [(7, [.i .i64], L2.t_messuageref13_Place)], wide := [7] }, { f := L2.f_messuagelaw11_gone, reg := 12, ints := [(36, 0, 32), (12, 0, 1)] }] 20 200 qe_ok mixed (t := lGone_t) lGone_tree (by
  show ∀ (v0 v1 v2 : Int) (L0 : List Int), _
  intro v0 v1 v2 L0 hp hr hl
  replace hr : (((0) : Int) ≤ v0 ∧ v0 ≤ ((3) : Int)) ∧ (((0) : Int) ≤ v1 ∧ v1 ≤ ((7) : Int)) ∧ (((0) : Int) ≤ v2 ∧ v2 ≤ ((1) : Int)) ∧ True := hr
  replace hl : (∀ x ∈ L0, (((-9223372036854775808) : Int) ≤ x ∧ x ≤ ((18446744073709551615) : Int))) ∧ True := hl
  show lGone_t.dn ⟨_, []⟩ 3 [v2, v1, v0] 1 [L0]
  rw [lGone_vc]
  obtain ⟨n0, T0, hn0, hv0, hc0, hk0⟩ := hp
  have hk0 : KT T0 L0 := hk0
  have hv0 : v0 < n0 := hv0
  clear hl
  refine ⟨⟨n0, T0, hn0, hc0, hk0⟩, fun v3 v4 v5 v6 B q A eA => ?_⟩
  obtain ⟨q1, q2, q3, q4, q5⟩ := q
  have q1 : v3 * 2 = (B.length : Int) := q1
  have q2 : v3 ≤ v4 := q2
  have q3 : v5 = v3 * 2 := q3
  have hB : ∀ n T, CV n T → KT T L0 → B = selC (qB T v0 v1) 4 := fun n T h1 h2 => (List.cons.inj (q5 n T h1 h2)).1
  clear q4 q5
  subst eA
  refine ⟨fun xs ys => match xs, ys with | [i, l, c, d, s], [C] => ∃ m : Nat, i = m ∧ m ≤ 4 ∧ l * 2 = (C.length : Int) ∧ l ≤ c ∧ c ≤ 9223372036854775807 ∧ d = l * 2 ∧ s = c * 2 ∧ l ≤ 8 * i ∧ ∀ n T, CV n T → KT T L0 → C = selC (qGone T v0 v1 v2) m | _, _ => False, fun xs _ => match xs with | i :: _ => (4 - i).toNat | _ => 0, ?_, ?_⟩ <;> dsimp only
  · exact ⟨0, rfl, by omega, rfl, by omega, by omega, by omega, by omega, by omega, fun n T _ _ => rfl⟩
  · intro i l c d s C hI
    obtain ⟨m, rfl, m4, a1, a2, a3, a4, a5, a6, hC⟩ := hI
    refine ⟨fun k => ?_, fun k => ?_⟩
    · refine ⟨fun xs ys => match xs, ys with | [j, l, c, d, s], [C] => ∃ o : Nat, j = o ∧ o ≤ 8 ∧ l * 2 = (C.length : Int) ∧ l ≤ c ∧ c ≤ 9223372036854775807 ∧ d = l * 2 ∧ s = c * 2 ∧ l ≤ 8 * m + j ∧ ∀ n T, CV n T → KT T L0 → C = selC (qGone T v0 v1 v2) m ++ rowC (qGone T v0 v1 v2) m o | _, _ => False, fun xs _ => match xs with | j :: _ => (8 - j).toNat | _ => 0, ?_, ?_⟩ <;> dsimp only
      · exact ⟨0, rfl, by omega, a1, a2, a3, a4, a5, by omega, fun n T h1 h2 => by rw [hC n T h1 h2]; simp [rowC]⟩
      · intro j l c d s C hI
        obtain ⟨o, rfl, o8, a1, a2, a3, a4, a5, a6, hC⟩ := hI
        obtain ⟨it0, hit⟩ : ∃ it0, it0 = (decide (v2 ≠ 0) && decide ((m : Int) = v0 ∧ (o : Int) = v1)) := ⟨_, rfl⟩
        refine ⟨fun k2 => ⟨fun v20 => ?_, fun v20 => ?_⟩, fun k2 y ey => ?_⟩
        · intro x19 e19 x20 e20 x21 e21 x22 e22 x23 e23
          have e23 : x23 = v3 := by rw [e23]; split <;> omega
          subst e23
          refine ⟨fun xs _ => match xs with | [q, x] => ∃ k : Nat, q = k ∧ k ≤ x23 ∧ x = b2i (it0 || inL (B.take (2 * k)) m o) | _ => False, fun xs _ => match xs with | q :: _ => (x23 - q).toNat | _ => 0, ?_, ?_⟩ <;> dsimp only
          · exact ⟨0, rfl, by omega, by
                rw [hit, e22, e21, e19, e20]
                by_cases p1 : v0 = m
                · by_cases p2 : v1 = o
                  · simp [p1, p2, b2i, inL, v20]
                  · simp [p1, p2, b2i, inL, v20]; exact fun h => p2 h.symm
                · simp [p1, b2i, inL, v20]; exact fun h => absurd h.symm p1⟩
          · intro q x hI
            obtain ⟨k, rfl, kv, hx⟩ := hI
            have st := fun (h : 2 * k + 1 < B.length) => inL_step (B := B) h (m : Int) (o : Int)
            refine ⟨fun c => ⟨fun z j ej => ⟨⟨k + 1, by omega, by omega, ?_⟩, by omega⟩, fun z => ⟨by omega, by omega, fun y1 g1 => ⟨by omega, fun w1 f1 y2 g2 => ⟨by omega, fun w2 f2 u1 h1' u2 h2' u3 h3' u4 h4' j ej => ⟨⟨k + 1, by omega, by omega, ?_⟩, by omega⟩⟩⟩⟩⟩, fun c => ?_⟩
            · have hor : (it0 || inL (B.take (2 * k)) m o) = true := by
                cases h : (it0 || inL (B.take (2 * k)) m o) with
                | true => rfl
                | false => rw [h] at hx; exact absurd hx z
              rw [st (by omega), ← Bool.or_assoc, hor]; rfl
            · have hor : (it0 || inL (B.take (2 * k)) m o) = false := by
                cases h : (it0 || inL (B.take (2 * k)) m o) with
                | false => rfl
                | true => rw [h, z] at hx; exact absurd hx (by decide)
              have e1 : w1 = B.getD (2 * k) 0 := by rw [f1, g1]; congr 1; omega
              have e2 : w2 = B.getD (2 * k + 1) 0 := by rw [f2, g2, g1]; congr 1; omega
              rw [st (by omega), ← Bool.or_assoc, hor, h4', h3', h1', h2', ← e1, ← e2, Bool.false_or]
              by_cases p1 : (m : Int) = w1
              · by_cases p2 : (o : Int) = w2
                · simp [p1, p2, b2i]
                · simp [p1, p2, b2i]
              · simp [p1, b2i]
            · have hk : B.take (2 * k) = B := List.take_of_length_le (by omega)
              rw [hk] at hx
              have hq : ∀ n T, CV n T → KT T L0 → x = b2i (qGone T v0 v1 v2 m o) := fun n T h1 h2 => by
                rw [hx, hB n T h1 h2, inL_sel]
                unfold qGone
                have e1 : (decide ((0 : Int) ≤ m) && decide ((m : Int) < (4 : Nat)) && (decide ((0 : Int) ≤ o) && decide ((o : Int) < 8) && qB T v0 v1 m o)) = qB T v0 v1 m o := by
                  have a1 : decide ((0 : Int) ≤ m) = true := by simp
                  have a2 : decide ((m : Int) < (4 : Nat)) = true := by simp; omega
                  have a3 : decide ((0 : Int) ≤ o) = true := by simp
                  have a4 : decide ((o : Int) < 8) = true := by simp; omega
                  rw [a1, a2, a3, a4]; simp
                rw [← hit, e1]
              refine ⟨fun z A' eA' y ey => ?_, fun z y ey => ?_⟩
              · refine ⟨by omega, a2, fun z1 ez => ⟨by omega, fun u eu => ⟨by omega, fun B5 e5 B6 e6 v ve1 ve2 w ew w' ew' j' ej => ⟨by omega, ⟨o + 1, by omega, by omega, ?_, ve1, ve2, ew, ew', by omega, fun n T h1 h2 => ?_⟩, by omega⟩⟩⟩⟩
                · have e5' : B5 = C := by rw [e5, List.take_of_length_le (by omega)]
                  rw [e6, e5', eA', List.length_append]
                  simp only [List.length_cons, List.length_nil]
                  omega
                · have e5' : B5 = C := by rw [e5, List.take_of_length_le (by omega)]
                  have hq' : qGone T v0 v1 v2 m o = true := by
                    have := hq n T h1 h2
                    cases h : qGone T v0 v1 v2 m o with
                    | true => rfl
                    | false => rw [h] at this; exact absurd this z
                  rw [e6, e5', eA', hC n T h1 h2, rowC_succ, hq', if_pos rfl, List.append_assoc]
              · refine ⟨⟨o + 1, by omega, by omega, a1, a2, a3, a4, a5, by omega, fun n T h1 h2 => ?_⟩, by omega⟩
                have hq' : qGone T v0 v1 v2 m o = false := by
                  have := hq n T h1 h2
                  cases h : qGone T v0 v1 v2 m o with
                  | false => rfl
                  | true => rw [h, z] at this; exact absurd this (by decide)
                rw [hC n T h1 h2, rowC_succ, hq']
                rfl
        · intro x23 e23
          have e23 : x23 = v3 := by rw [e23]; split <;> omega
          subst e23
          refine ⟨fun xs _ => match xs with | [q, x] => ∃ k : Nat, q = k ∧ k ≤ x23 ∧ x = b2i (it0 || inL (B.take (2 * k)) m o) | _ => False, fun xs _ => match xs with | q :: _ => (x23 - q).toNat | _ => 0, ?_, ?_⟩ <;> dsimp only
          · exact ⟨0, rfl, by omega, by rw [hit, v20]; simp [inL, b2i]⟩
          · intro q x hI
            obtain ⟨k, rfl, kv, hx⟩ := hI
            have st := fun (h : 2 * k + 1 < B.length) => inL_step (B := B) h (m : Int) (o : Int)
            refine ⟨fun c => ⟨fun z j ej => ⟨⟨k + 1, by omega, by omega, ?_⟩, by omega⟩, fun z => ⟨by omega, by omega, fun y1 g1 => ⟨by omega, fun w1 f1 y2 g2 => ⟨by omega, fun w2 f2 u1 h1' u2 h2' u3 h3' u4 h4' j ej => ⟨⟨k + 1, by omega, by omega, ?_⟩, by omega⟩⟩⟩⟩⟩, fun c => ?_⟩
            · have hor : (it0 || inL (B.take (2 * k)) m o) = true := by
                cases h : (it0 || inL (B.take (2 * k)) m o) with
                | true => rfl
                | false => rw [h] at hx; exact absurd hx z
              rw [st (by omega), ← Bool.or_assoc, hor]; rfl
            · have hor : (it0 || inL (B.take (2 * k)) m o) = false := by
                cases h : (it0 || inL (B.take (2 * k)) m o) with
                | false => rfl
                | true => rw [h, z] at hx; exact absurd hx (by decide)
              have e1 : w1 = B.getD (2 * k) 0 := by rw [f1, g1]; congr 1; omega
              have e2 : w2 = B.getD (2 * k + 1) 0 := by rw [f2, g2, g1]; congr 1; omega
              rw [st (by omega), ← Bool.or_assoc, hor, h4', h3', h1', h2', ← e1, ← e2, Bool.false_or]
              by_cases p1 : (m : Int) = w1
              · by_cases p2 : (o : Int) = w2
                · simp [p1, p2, b2i]
                · simp [p1, p2, b2i]
              · simp [p1, b2i]
            · have hk : B.take (2 * k) = B := List.take_of_length_le (by omega)
              rw [hk] at hx
              have hq : ∀ n T, CV n T → KT T L0 → x = b2i (qGone T v0 v1 v2 m o) := fun n T h1 h2 => by
                rw [hx, hB n T h1 h2, inL_sel]
                unfold qGone
                have e1 : (decide ((0 : Int) ≤ m) && decide ((m : Int) < (4 : Nat)) && (decide ((0 : Int) ≤ o) && decide ((o : Int) < 8) && qB T v0 v1 m o)) = qB T v0 v1 m o := by
                  have a1 : decide ((0 : Int) ≤ m) = true := by simp
                  have a2 : decide ((m : Int) < (4 : Nat)) = true := by simp; omega
                  have a3 : decide ((0 : Int) ≤ o) = true := by simp
                  have a4 : decide ((o : Int) < 8) = true := by simp; omega
                  rw [a1, a2, a3, a4]; simp
                rw [← hit, e1]
              refine ⟨fun z A' eA' y ey => ?_, fun z y ey => ?_⟩
              · refine ⟨by omega, a2, fun z1 ez => ⟨by omega, fun u eu => ⟨by omega, fun B5 e5 B6 e6 v ve1 ve2 w ew w' ew' j' ej => ⟨by omega, ⟨o + 1, by omega, by omega, ?_, ve1, ve2, ew, ew', by omega, fun n T h1 h2 => ?_⟩, by omega⟩⟩⟩⟩
                · have e5' : B5 = C := by rw [e5, List.take_of_length_le (by omega)]
                  rw [e6, e5', eA', List.length_append]
                  simp only [List.length_cons, List.length_nil]
                  omega
                · have e5' : B5 = C := by rw [e5, List.take_of_length_le (by omega)]
                  have hq' : qGone T v0 v1 v2 m o = true := by
                    have := hq n T h1 h2
                    cases h : qGone T v0 v1 v2 m o with
                    | true => rfl
                    | false => rw [h] at this; exact absurd this z
                  rw [e6, e5', eA', hC n T h1 h2, rowC_succ, hq', if_pos rfl, List.append_assoc]
              · refine ⟨⟨o + 1, by omega, by omega, a1, a2, a3, a4, a5, by omega, fun n T h1 h2 => ?_⟩, by omega⟩
                have hq' : qGone T v0 v1 v2 m o = false := by
                  have := hq n T h1 h2
                  cases h : qGone T v0 v1 v2 m o with
                  | false => rfl
                  | true => rw [h, z] at this; exact absurd this (by decide)
                rw [hC n T h1 h2, rowC_succ, hq']
                rfl
        · have : o = 8 := by omega
          subst this
          refine ⟨⟨m + 1, by omega, by omega, a1, a2, a3, a4, a5, by omega, fun n T h1 h2 => ?_⟩, by omega⟩
          rw [hC n T h1 h2, selC_succ]
    · have : m = 4 := by omega
      subst this
      refine ⟨by omega, by omega, by omega, ⟨⟨n0, T0, hn0, hc0, hk0, show PlsOk n0 C from by rw [hC n0 T0 hc0 hk0]; exact qGone_pls hc0 hv0⟩, a2, a4, show (C.length : Int) = d by omega⟩, fun W q => ?_⟩
      show l * 2 = (C.length : Int) ∧ l ≤ c ∧ d = l * 2 ∧ s = c * 2 ∧ ∀ n T, n ≤ 4 → v0 < n → CV n T → KT T L0 → C = selC (qGone T v0 v1 v2) 4 ∧ KT (emptyC T C) W
      refine ⟨a1, a2, a4, a5, fun n T h4 h0 h1 h2 => ⟨hC n T h1 h2, ?_⟩⟩
      exact q n T h4 h1 h2 (show PlsOk n C from by rw [hC n T h1 h2]; exact qGone_pls h1 h0))
end Go.Proofs.YtpmgfdakljjlaaaGreatDoor
