/- Contract: the document's capabilities below a place. -/
import Derived.Test.YtpmgfdakljjlaaaGreatDoorL2Qa
set_option linter.unusedVariables false
set_option linter.constructorNameAsVariable false
set_option linter.unusedSimpArgs false
open Go Go.Sx
namespace Go.Proofs.YtpmgfdakljjlaaaGreatDoor
set_option maxRecDepth 100000
theorem qb_ok : (withS (L2.cfg Tryz.prog) [L2.rFrom]).Ok Tryz.prog := withS_ok cfg_ok ⟨rFrom_holds, trivial⟩
noncomputable def rBelow_t : Tree := .letL (.lit []) (.loop [.c (0), .c (0), .c (0), .c (0), .c (0)] [1] (.letI (.cmp .lss (.v 2) (.c 4)) (.ite (.v 7) (.loop [.c (0), .v 3, .v 4, .v 5, .v 6] [2] (.letI (.cmp .lss (.v 8) (.c 8)) (.ite (.v 13) (.call 62 (Go.Sx.L2.rFrom).rel [.v 2, .v 8, .v 0, .v 1] [0] 1 0 (.ite (.v 14) (.letL (.lit [.v 2, .v 8]) (.letI (.add (.v 9) (.c 1)) (.need .leq (.v 15) (.c 1000000) (.need .leq (.v 9) (.v 10) (.letI (.mul (.v 9) (.c 2)) (.need .leq (.v 16) (.v 11) (.letI (.mul (.v 10) (.c 2)) (.need .eql (.v 17) (.v 12) (.letL (.take 3 (.v 16)) (.letL (.app 5 4) (.any (.v 15) (.c 9223372036854775807) (.letI (.mul (.v 15) (.c 2)) (.letI (.mul (.v 18) (.c 2)) (.letI (.add (.v 8) (.c 1)) (.need .leq (.v 19) (.c 1000000) (.again [.v 21, .v 15, .v 18, .v 19, .v 20] [6])))))))))))))))) (.letI (.add (.v 8) (.c 1)) (.again [.v 15, .v 9, .v 10, .v 11, .v 12] [3])))) (.exit (.letI (.add (.v 2) (.c 1)) (.again [.v 14, .v 9, .v 10, .v 11, .v 12] [3])))))) (.exit (.need .leq (.v 3) (.c 32) (.need .leq (.v 5) (.c 64) (.need .leq (.v 6) (.c 18446744073709551614) (.done [.v 3, .v 4, .v 5, .v 6] [2]))))))))
theorem rBelow_tree : (L2.rBelow).exe Tryz.prog (withS (L2.cfg Tryz.prog) [L2.rFrom]) [{ f := L2.f_messuageref13_Kernel_Below, reg := 3, ints := [(9, 0, 4)], vecs := [(5, some (0, 7))], nils := [(5, [.i .i64], L2.t_messuageref13_Place)], wide := [5] }, { f := L2.f_messuageref13_Kernel_Below, reg := 6, ints := [(12, 0, 8)], vecs := [(5, some (0, 7))], nils := [(5, [.i .i64], L2.t_messuageref13_Place)], wide := [5] }] 20 200 = rBelow_t := by kernel_rfl
theorem rBelow_vc (Q : List Int → List (List Int) → Prop) (v0 v1 : Int) (L0 : List Int) : rBelow_t.dn ⟨Q, []⟩ 2 [v1, v0] 1 [L0] = (∀ L1 : List Int, L1 = [] → ∃ (I0 : List Int → List (List Int) → Prop) (μ0 : List Int → List (List Int) → Nat), I0 [(0 : Int), (0 : Int), (0 : Int), (0 : Int), (0 : Int)] [L1] ∧
(∀ v2 : Int, ∀ v3 : Int, ∀ v4 : Int, ∀ v5 : Int, ∀ v6 : Int, ∀ L2 : List Int, I0 [v2, v3, v4, v5, v6] [L2] →
 ((v2 < (4 : Int)) → ∃ (I1 : List Int → List (List Int) → Prop) (μ1 : List Int → List (List Int) → Nat), I1 [(0 : Int), v3, v4, v5, v6] [L2] ∧
(∀ v8 : Int, ∀ v9 : Int, ∀ v10 : Int, ∀ v11 : Int, ∀ v12 : Int, ∀ L3 : List Int, I1 [v8, v9, v10, v11, v12] [L3] →
 ((v8 < (8 : Int)) → (Go.Sx.L2.rFrom).rel.pre [v2, v8, v0, v1] [L0] ∧
(∀ v14 : Int, (Go.Sx.L2.rFrom).rel.post [v2, v8, v0, v1] [L0] [v14] [] → (v14 ≠ 0 → ∀ L4 : List Int, L4 = [v2, v8] → ∀ v15 : Int, v15 = v9 + (1 : Int) → (v15 ≤ (1000000 : Int)) ∧ (v9 ≤ v10) ∧ ∀ v16 : Int, v16 = v9 * (2 : Int) → (v16 ≤ v11) ∧ ∀ v17 : Int, v17 = v10 * (2 : Int) → (v17 = v12) ∧ ∀ L5 : List Int, L5 = (L3).take (v16).toNat → ∀ L6 : List Int, L6 = L5 ++ L4 → ∀ v18 : Int, v15 ≤ v18 → v18 ≤ (9223372036854775807 : Int) → ∀ v19 : Int, v19 = v15 * (2 : Int) → ∀ v20 : Int, v20 = v18 * (2 : Int) → ∀ v21 : Int, v21 = v8 + (1 : Int) → (v19 ≤ (1000000 : Int)) ∧ (I1 [v21, v15, v18, v19, v20] [L6] ∧ μ1 [v21, v15, v18, v19, v20] [L6] < μ1 [v8, v9, v10, v11, v12] [L3])) ∧
(v14 = 0 → ∀ v15 : Int, v15 = v8 + (1 : Int) → (I1 [v15, v9, v10, v11, v12] [L3] ∧ μ1 [v15, v9, v10, v11, v12] [L3] < μ1 [v8, v9, v10, v11, v12] [L3])))) ∧
(((8 : Int) ≤ v8) → ∀ v14 : Int, v14 = v2 + (1 : Int) → (I0 [v14, v9, v10, v11, v12] [L3] ∧ μ0 [v14, v9, v10, v11, v12] [L3] < μ0 [v2, v3, v4, v5, v6] [L2])))) ∧
(((4 : Int) ≤ v2) → (v3 ≤ (32 : Int)) ∧ (v5 ≤ (64 : Int)) ∧ (v6 ≤ (18446744073709551614 : Int)) ∧ Q [v3, v4, v5, v6] [L2]))) := by kernel_rfl
set_option maxHeartbeats 4000000 in
theorem rBelow_holds : (L2.rBelow).Holds Tryz.prog L2.ro := FSpec.holdsV (cfg := withS (L2.cfg Tryz.prog) [L2.rFrom]) [{ f := L2.f_messuageref13_Kernel_Below, reg := 3, ints := [(9, 0, 4)], vecs := [(5, some (0, 7))], nils := [(5, [.i .i64], L2.t_messuageref13_Place)], wide := [5] }, { f := L2.f_messuageref13_Kernel_Below, reg := 6, ints := [(12, 0, 8)], vecs := [(5, some (0, 7))], nils := [(5, [.i .i64], L2.t_messuageref13_Place)], wide := [5] }] 20 200 qb_ok mixed (t := rBelow_t) rBelow_tree (by
  show ∀ (v0 v1 : Int) (L0 : List Int), _
  intro v0 v1 L0 hp hr hl
  replace hr : (((0) : Int) ≤ v0 ∧ v0 ≤ ((3) : Int)) ∧ (((0) : Int) ≤ v1 ∧ v1 ≤ ((7) : Int)) ∧ True := hr
  replace hl : (∀ x ∈ L0, (((-9223372036854775808) : Int) ≤ x ∧ x ≤ ((18446744073709551615) : Int))) ∧ True := hl
  show rBelow_t.dn ⟨_, []⟩ 2 [v1, v0] 1 [L0]
  rw [rBelow_vc]
  have hp : KV L0 := hp
  clear hl
  intro A eA
  subst eA
  refine ⟨fun xs ys => match xs, ys with | [i, l, c, d, s], [B] => ∃ m : Nat, i = m ∧ m ≤ 4 ∧ l * 2 = (B.length : Int) ∧ l ≤ c ∧ c ≤ 9223372036854775807 ∧ d = l * 2 ∧ s = c * 2 ∧ l ≤ 8 * i ∧ ∀ n T, CV n T → KT T L0 → B = selC (qB T v0 v1) m | _, _ => False, fun xs _ => match xs with | i :: _ => (4 - i).toNat | _ => 0, ?_, ?_⟩ <;> dsimp only
  · exact ⟨0, rfl, by omega, rfl, by omega, by omega, by omega, by omega, by omega, fun n T _ _ => rfl⟩
  · intro i l c d s B hI
    obtain ⟨m, rfl, m4, a1, a2, a3, a4, a5, a6, hB⟩ := hI
    refine ⟨fun k => ?_, fun k => ?_⟩
    · refine ⟨fun xs ys => match xs, ys with | [j, l, c, d, s], [B] => ∃ o : Nat, j = o ∧ o ≤ 8 ∧ l * 2 = (B.length : Int) ∧ l ≤ c ∧ c ≤ 9223372036854775807 ∧ d = l * 2 ∧ s = c * 2 ∧ l ≤ 8 * m + j ∧ ∀ n T, CV n T → KT T L0 → B = selC (qB T v0 v1) m ++ rowC (qB T v0 v1) m o | _, _ => False, fun xs _ => match xs with | j :: _ => (8 - j).toNat | _ => 0, ?_, ?_⟩ <;> dsimp only
      · exact ⟨0, rfl, by omega, a1, a2, a3, a4, a5, by omega, fun n T h1 h2 => by rw [hB n T h1 h2]; simp [rowC]⟩
      · intro j l c d s B hI
        obtain ⟨o, rfl, o8, a1, a2, a3, a4, a5, a6, hB⟩ := hI
        refine ⟨fun k2 => ⟨hp, fun x q => ⟨fun hx A' eA' y ey => ?_, fun hx y ey => ?_⟩⟩, fun k2 y ey => ?_⟩
        · refine ⟨by omega, a2, fun z ez => ⟨by omega, fun u eu => ⟨by omega, fun B5 e5 B6 e6 v ve1 ve2 w ew w' ew' j' ej => ⟨by omega, ⟨o + 1, by omega, by omega, ?_, ve1, ve2, ew, ew', by omega, fun n T h1 h2 => ?_⟩, by omega⟩⟩⟩⟩
          · have e5' : B5 = B := by rw [e5, List.take_of_length_le (by omega)]
            rw [e6, e5', eA', List.length_append]
            simp only [List.length_cons, List.length_nil]
            omega
          · have e5' : B5 = B := by rw [e5, List.take_of_length_le (by omega)]
            have hq : x = b2i (qB T v0 v1 m o) := (List.cons.inj (q n T h1 h2).1).1
            have hq' : qB T v0 v1 m o = true := by
              cases h : qB T v0 v1 m o with
              | true => rfl
              | false => rw [h] at hq; exact absurd hq hx
            rw [e6, e5', eA', hB n T h1 h2, rowC_succ, hq', if_pos rfl, List.append_assoc]
        · refine ⟨⟨o + 1, by omega, by omega, a1, a2, a3, a4, a5, by omega, fun n T h1 h2 => ?_⟩, by omega⟩
          have hq : x = b2i (qB T v0 v1 m o) := (List.cons.inj (q n T h1 h2).1).1
          have hq' : qB T v0 v1 m o = false := by
            cases h : qB T v0 v1 m o with
            | false => rfl
            | true => rw [h, hx] at hq; exact absurd hq (by decide)
          rw [hB n T h1 h2, rowC_succ, hq']
          rfl
        · have : o = 8 := by omega
          subst this
          refine ⟨⟨m + 1, by omega, by omega, a1, a2, a3, a4, a5, by omega, fun n T h1 h2 => ?_⟩, by omega⟩
          rw [hB n T h1 h2, selC_succ]
    · have : m = 4 := by omega
      subst this
      refine ⟨by omega, by omega, by omega, ?_⟩
      show l * 2 = ((([B] : List (List Int)).getD 0 []).length : Int) ∧ l ≤ c ∧ d = l * 2 ∧ s = c * 2 ∧ ∀ n T, CV n T → KT T L0 → [B] = [selC (qB T v0 v1) 4]
      exact ⟨a1, a2, a4, a5, fun n T h1 h2 => by rw [hB n T h1 h2]⟩)
end Go.Proofs.YtpmgfdakljjlaaaGreatDoor
