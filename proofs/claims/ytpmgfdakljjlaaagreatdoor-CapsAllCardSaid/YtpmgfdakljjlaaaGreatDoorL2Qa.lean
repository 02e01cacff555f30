/- Contract: does a capability come from a place? -/
import Derived.Test.YtpmgfdakljjlaaaGreatDoorL2Facts
import Derived.Test.YtpmgfdakljjlaaaGreatDoorSxM7
import Derived.Test.YtpmgfdakljjlaaaGreatDoorL2S
import Derived.Test.YtpmgfdakljjlaaaGreatDoorPuZ
set_option linter.unusedVariables false
set_option linter.constructorNameAsVariable false
set_option linter.unusedSimpArgs false
open Go Go.Sx
namespace Go.Proofs.YtpmgfdakljjlaaaGreatDoor
set_option maxRecDepth 100000
noncomputable def rFrom_t : Tree := .loop [.c (0), .v 0, .v 1] [] (.letI (.cmp .lss (.v 4) (.c 32)) (.ite (.v 7) (.letI (.mul (.v 5) (.c 40)) (.letI (.add (.c 3) (.v 8)) (.letI (.mul (.v 6) (.c 5)) (.letI (.add (.v 9) (.v 10)) (.letI (.get 0 (.v 11)) (.letI (.add (.v 11) (.c 1)) (.letI (.get 0 (.v 13)) (.letI (.add (.v 11) (.c 2)) (.letI (.get 0 (.v 15)) (.letI (.add (.v 11) (.c 3)) (.letI (.get 0 (.v 17)) (.letI (.add (.v 11) (.c 4)) (.letI (.get 0 (.v 19)) (.letI (.not (.v 12)) (.ite (.v 21) (.exit (.done [.c (0)] [])) (.letI (.cmp .lss (.v 18) (.c 0)) (.ite (.v 22) (.exit (.done [.c (0)] [])) (.letI (.cmp .eql (.v 2) (.v 18)) (.letI (.cmp .eql (.v 3) (.v 20)) (.letI (.pick (.v 24) (.c 1) (.c 0)) (.letI (.pick (.v 23) (.v 25) (.c 0)) (.ite (.v 26) (.exit (.done [.c (1)] [])) (.letI (.add (.v 4) (.c 1)) (.need .geq (.v 20) (.c 0) (.need .leq (.v 20) (.c 7) (.need .leq (.v 18) (.c 3) (.again [.v 27, .v 18, .v 20] []))))))))))))))))))))))))))) (.exit (.done [.c (0)] []))))
theorem rFrom_tree : (L2.rFrom).exe Tryz.prog (L2.cfg Tryz.prog) [{ f := L2.f_messuageref13_Kernel_from, reg := 2, ints := [(7, 0, 32)], cells := [(4, [], 0, 0, 3), (4, [], 1, 0, 7)] }] 20 200 = rFrom_t := by kernel_rfl
theorem rFrom_vc (Q : List Int → List (List Int) → Prop) (v0 v1 v2 v3 : Int) (L0 : List Int) : rFrom_t.dn ⟨Q, []⟩ 4 [v3, v2, v1, v0] 1 [L0] = (∃ (I0 : List Int → List (List Int) → Prop) (μ0 : List Int → List (List Int) → Nat), I0 [(0 : Int), v0, v1] [] ∧
(∀ v4 : Int, ∀ v5 : Int, ∀ v6 : Int, I0 [v4, v5, v6] [] →
 ((v4 < (32 : Int)) → ∀ v8 : Int, v8 = v5 * (40 : Int) → ∀ v9 : Int, v9 = (3 : Int) + v8 → ∀ v10 : Int, v10 = v6 * (5 : Int) → ∀ v11 : Int, v11 = v9 + v10 → ∀ v12 : Int, v12 = (L0).getD (v11).toNat 0 → ∀ v13 : Int, v13 = v11 + (1 : Int) → ∀ v14 : Int, v14 = (L0).getD (v13).toNat 0 → ∀ v15 : Int, v15 = v11 + (2 : Int) → ∀ v16 : Int, v16 = (L0).getD (v15).toNat 0 → ∀ v17 : Int, v17 = v11 + (3 : Int) → ∀ v18 : Int, v18 = (L0).getD (v17).toNat 0 → ∀ v19 : Int, v19 = v11 + (4 : Int) → ∀ v20 : Int, v20 = (L0).getD (v19).toNat 0 → ∀ v21 : Int, v21 = b2i (v12 == 0) → (v21 ≠ 0 → Q [(0 : Int)] []) ∧
(v21 = 0 → ((v18 < (0 : Int)) → Q [(0 : Int)] []) ∧
(((0 : Int) ≤ v18) → ∀ v23 : Int, v23 = b2i (v2 == v18) → ∀ v24 : Int, v24 = b2i (v3 == v20) → ∀ v25 : Int, v25 = (if v24 = 0 then (0 : Int) else (1 : Int)) → ∀ v26 : Int, v26 = (if v23 = 0 then (0 : Int) else v25) → (v26 ≠ 0 → Q [(1 : Int)] []) ∧
(v26 = 0 → ∀ v27 : Int, v27 = v4 + (1 : Int) → ((0 : Int) ≤ v20) ∧ (v20 ≤ (7 : Int)) ∧ (v18 ≤ (3 : Int)) ∧ (I0 [v27, v18, v20] [] ∧ μ0 [v27, v18, v20] [] < μ0 [v4, v5, v6] []))))) ∧
(((32 : Int) ≤ v4) → Q [(0 : Int)] []))) := by kernel_rfl
set_option maxHeartbeats 4000000 in
theorem rFrom_holds : (L2.rFrom).Holds Tryz.prog L2.ro := FSpec.holdsV (cfg := L2.cfg Tryz.prog) [{ f := L2.f_messuageref13_Kernel_from, reg := 2, ints := [(7, 0, 32)], cells := [(4, [], 0, 0, 3), (4, [], 1, 0, 7)] }] 20 200 cfg_ok mixed (t := rFrom_t) rFrom_tree (by
  show ∀ (v0 v1 v2 v3 : Int) (L0 : List Int), _
  intro v0 v1 v2 v3 L0 hp hr hl
  replace hr : (((0) : Int) ≤ v0 ∧ v0 ≤ ((3) : Int)) ∧ (((0) : Int) ≤ v1 ∧ v1 ≤ ((7) : Int)) ∧ (((0) : Int) ≤ v2 ∧ v2 ≤ ((3) : Int)) ∧ (((0) : Int) ≤ v3 ∧ v3 ≤ ((7) : Int)) ∧ True := hr
  replace hl : (∀ x ∈ L0, (((-9223372036854775808) : Int) ≤ x ∧ x ≤ ((18446744073709551615) : Int))) ∧ True := hl
  show rFrom_t.dn ⟨_, []⟩ 4 [v3, v2, v1, v0] 1 [L0]
  rw [rFrom_vc]
  obtain ⟨n0, T0, hn0, hc0, hk0⟩ := hp
  have hk0 : KT T0 L0 := hk0
  clear hl
  refine ⟨fun xs _ => match xs with | [i, a, b] => ∃ k : Nat, i = k ∧ k ≤ 32 ∧ 0 ≤ a ∧ a ≤ 3 ∧ 0 ≤ b ∧ b ≤ 7 ∧ ∀ n T, CV n T → KT T L0 → qB T v2 v3 v0 v1 = undC T v2 v3 (32 - k) (cG T a b 1) (cG T a b 2) (cG T a b 3) | _ => False, fun xs _ => match xs with | i :: _ => (32 - i).toNat | _ => 0, ?_, ?_⟩ <;> dsimp only
  · exact ⟨0, rfl, by omega, by omega, by omega, by omega, by omega, fun n T _ _ => rfl⟩
  · intro i a b hI
    obtain ⟨k, rfl, k32, a0, a3, b0, b7, hq⟩ := hI
    refine ⟨fun c => ?_, fun c => ?_⟩
    · intro x1 e1 x2 e2 x3 e3 x4 e4 w0 f0 y1 g1 w1 f1 y2 g2 w2 f2 y3 g3 w3 f3 y4 g4 w4 f4 z ez
      rw [g1] at f1
      rw [g2] at f2
      rw [g3] at f3
      rw [g4] at f4
      have rd : ∀ T, KT T L0 → w0 = b2i (decide (cG T a b 1 ≠ 0)) ∧ w1 = cG T a b 0 ∧ w2 = cG T a b 1 ∧ w3 = cG T a b 2 ∧ w4 = cG T a b 3 := fun T h => by
        have := h.rd (a := a) (b := b) (i := x4) a0 (by omega) b0 (by omega) (by omega)
        rw [← f0, ← f1, ← f2, ← f3, ← f4] at this
        exact this
      have hs : ∀ n T, CV n T → KT T L0 → qB T v2 v3 v0 v1 = if w2 = 0 ∨ w3 < 0 then false else if w3 = v2 ∧ w4 = v3 then true else undC T v2 v3 (31 - k) (cG T w3 w4 1) (cG T w3 w4 2) (cG T w3 w4 3) := fun n T h1 h2 => by
        have := hq n T h1 h2
        rw [show 32 - k = (31 - k) + 1 by omega, undC_succ] at this
        obtain ⟨r0, r1, r2, r3, r4⟩ := rd T h2
        rw [← r2, ← r3, ← r4] at this
        exact this
      have hw0 : w0 = b2i (decide (w2 ≠ 0)) := by
        obtain ⟨r0, r1, r2, r3, r4⟩ := rd T0 hk0
        rw [r2]; exact r0
      have hpar : w2 ≠ 0 → 0 ≤ w3 → w3 ≤ 3 ∧ 0 ≤ w4 ∧ w4 ≤ 7 := fun h1 h2 => by
        obtain ⟨r0, r1, r2, r3, r4⟩ := rd T0 hk0
        have hin := hc0.inn (a := a) (b := b) (k := 1) a0 b0 (by omega) (by rw [← r2]; exact h1)
        have := hc0.par a b a0 hin b0 (by omega) (by rw [← r2]; exact h1) (by rw [← r3]; exact h2)
        rw [← r3, ← r4] at this
        omega
      clear f0 f1 f2 f3 f4 rd hq
      refine ⟨fun d => ?_, fun d => ?_⟩
      · have h2 : w2 = 0 := by
          by_cases h : w2 = 0
          · exact h
          · exfalso; rw [ez, hw0] at d; simp [h, b2i] at d
        intro n T h3 h4
        have := hs n T h3 h4
        rw [if_pos (.inl h2)] at this
        show [(0 : Int)] = [b2i (qB T v2 v3 v0 v1)] ∧ _
        rw [this]; exact ⟨rfl, rfl⟩
      · have h2 : w2 ≠ 0 := fun h => by rw [ez, hw0] at d; simp [h, b2i] at d
        refine ⟨fun d2 => ?_, fun d2 u1 h1' u2 h2' u3 h3' u4 h4' => ?_⟩
        · intro n T h3 h4
          have := hs n T h3 h4
          rw [if_pos (.inr d2)] at this
          show [(0 : Int)] = [b2i (qB T v2 v3 v0 v1)] ∧ _
          rw [this]; exact ⟨rfl, rfl⟩
        · obtain ⟨p1, p2, p3⟩ := hpar h2 d2
          have hu4 : u4 ≠ 0 ↔ w3 = v2 ∧ w4 = v3 := by
            rw [h4', h3', h1', h2']
            by_cases q1 : v2 = w3
            · by_cases q2 : v3 = w4
              · simp [q1, q2, b2i]
              · simp [q1, q2, b2i]; exact fun h => q2 h.symm
            · simp [q1, b2i]; exact fun h => absurd h.symm q1
          refine ⟨fun d3 => ?_, fun d3 j ej => ⟨p2, p3, p1, ⟨k + 1, by omega, by omega, d2, p1, p2, p3, fun n T h3 h4 => ?_⟩, by omega⟩⟩
          · intro n T h3 h4
            have := hs n T h3 h4
            rw [if_neg (by omega), if_pos (hu4.1 d3)] at this
            show [(1 : Int)] = [b2i (qB T v2 v3 v0 v1)] ∧ _
            rw [this]; exact ⟨rfl, rfl⟩
          · have := hs n T h3 h4
            rw [if_neg (by omega), if_neg (fun h => hu4.2 h d3)] at this
            rw [this, show 32 - (k + 1) = 31 - k by omega]
    · intro n T h3 h4
      have := hq n T h3 h4
      rw [show 32 - k = 0 by omega] at this
      show [(0 : Int)] = [b2i (qB T v2 v3 v0 v1)] ∧ _
      rw [this]; exact ⟨rfl, rfl⟩)
end Go.Proofs.YtpmgfdakljjlaaaGreatDoor
