/- Contract: a frame's entries flushed. -/
import Derived.Test.YthjfkblnbecjgaaGreatDoorL2Bt
set_option linter.unusedVariables false
set_option linter.unusedSimpArgs false
open Go Go.Sx
namespace Go.Proofs.YthjfkblnbecjgaaGreatDoor
set_option maxRecDepth 100000
theorem bt_ok : (withS (L2.cfg2 Tryz.prog) [L2.bLines, L2.bFlush]).Ok Tryz.prog := withS_ok cfg2_ok ⟨bLines_holds, bFlush_holds, trivial⟩
noncomputable def bFlushFrame_t : Tree := .call 62 (Go.Sx.L2.bLines).rel [] [0] 2 1 (.loop [.c (0), .c (0)] [0] (.letI (.cmp .lss (.v 3) (.c 8)) (.ite (.v 5) (.letI (.mul (.v 3) (.c 4)) (.letI (.get 1 (.v 6)) (.letI (.add (.v 6) (.c 1)) (.letI (.get 1 (.v 8)) (.letI (.add (.v 6) (.c 2)) (.letI (.get 1 (.v 10)) (.letI (.add (.v 6) (.c 3)) (.letI (.get 1 (.v 12)) (.letI (.cmp .leq (.c 0) (.v 7)) (.ite (.v 14) (.letI (.cmp .eql (.v 0) (.v 11)) (.ite (.v 15) (.call 83 (Go.Sx.L2.bFlush).rel [.v 7, .v 9] [2] 1 1 (.ite (.v 16) (.letI (.add (.v 4) (.c 1)) (.letI (.add (.v 3) (.c 1)) (.need .leq (.v 17) (.c 8) (.again [.v 18, .v 17] [3])))) (.letI (.add (.v 3) (.c 1)) (.again [.v 17, .v 4] [3])))) (.letI (.add (.v 3) (.c 1)) (.again [.v 16, .v 4] [2])))) (.letI (.add (.v 3) (.c 1)) (.again [.v 15, .v 4] [2])))))))))))) (.exit (.done [.v 4] [2])))))
theorem bFlushFrame_tree : (L2.bFlushFrame).exe Tryz.prog (withS (L2.cfg2 Tryz.prog) [L2.bLines, L2.bFlush]) [{ f := 84, reg := 3, ints := [(11, 0, 8), (5, 0, 8)], lists := [(0, [], some (-9223372036854775808, 9223372036854775807))] }] 20 200 = bFlushFrame_t := by kernel_rfl
theorem bFlushFrame_vc (Q : List Int → List (List Int) → Prop) (v0 : Int) (L0 : List Int) : bFlushFrame_t.dn ⟨Q, []⟩ 1 [v0] 1 [L0] = ((Go.Sx.L2.bLines).rel.pre [] [L0] ∧
(∀ v1 : Int, ∀ v2 : Int, ∀ L1 : List Int, (Go.Sx.L2.bLines).rel.post [] [L0] [v1, v2] [L1] → ∃ (I0 : List Int → List (List Int) → Prop) (μ0 : List Int → List (List Int) → Nat), I0 [(0 : Int), (0 : Int)] [L0] ∧
(∀ v3 : Int, ∀ v4 : Int, ∀ L2 : List Int, I0 [v3, v4] [L2] →
 ((v3 < (8 : Int)) → ∀ v6 : Int, v6 = v3 * (4 : Int) → ∀ v7 : Int, v7 = (L1).getD (v6).toNat 0 → ∀ v8 : Int, v8 = v6 + (1 : Int) → ∀ v9 : Int, v9 = (L1).getD (v8).toNat 0 → ∀ v10 : Int, v10 = v6 + (2 : Int) → ∀ v11 : Int, v11 = (L1).getD (v10).toNat 0 → ∀ v12 : Int, v12 = v6 + (3 : Int) → ∀ v13 : Int, v13 = (L1).getD (v12).toNat 0 → (((0 : Int) ≤ v7) → ((v0 = v11) → (Go.Sx.L2.bFlush).rel.pre [v7, v9] [L2] ∧
(∀ v16 : Int, ∀ L3 : List Int, (Go.Sx.L2.bFlush).rel.post [v7, v9] [L2] [v16] [L3] → (v16 ≠ 0 → ∀ v17 : Int, v17 = v4 + (1 : Int) → ∀ v18 : Int, v18 = v3 + (1 : Int) → (v17 ≤ (8 : Int)) ∧ (I0 [v18, v17] [L3] ∧ μ0 [v18, v17] [L3] < μ0 [v3, v4] [L2])) ∧
(v16 = 0 → ∀ v17 : Int, v17 = v3 + (1 : Int) → (I0 [v17, v4] [L3] ∧ μ0 [v17, v4] [L3] < μ0 [v3, v4] [L2])))) ∧
((v0 ≠ v11) → ∀ v16 : Int, v16 = v3 + (1 : Int) → (I0 [v16, v4] [L2] ∧ μ0 [v16, v4] [L2] < μ0 [v3, v4] [L2]))) ∧
((v7 < (0 : Int)) → ∀ v15 : Int, v15 = v3 + (1 : Int) → (I0 [v15, v4] [L2] ∧ μ0 [v15, v4] [L2] < μ0 [v3, v4] [L2]))) ∧
(((8 : Int) ≤ v3) → Q [v4] [L2])))) := by kernel_rfl
set_option maxHeartbeats 4000000 in
theorem bFlushFrame_holds : (L2.bFlushFrame).Holds Tryz.prog L2.ro := FSpec.holdsV (cfg := withS (L2.cfg2 Tryz.prog) [L2.bLines, L2.bFlush]) [{ f := 84, reg := 3, ints := [(11, 0, 8), (5, 0, 8)], lists := [(0, [], some (-9223372036854775808, 9223372036854775807))] }] 20 200 bt_ok mixed (t := bFlushFrame_t) bFlushFrame_tree (by
  show ∀ (v0 : Int) (L0 : List Int), _
  intro v0 L0 hp hr hl
  replace hr : (((-9223372036854775808) : Int) ≤ v0 ∧ v0 ≤ ((9223372036854775807) : Int)) ∧ True := hr
  replace hl : (∀ x ∈ L0, (((-9223372036854775808) : Int) ≤ x ∧ x ≤ ((9223372036854775807) : Int))) ∧ True := hl
  show bFlushFrame_t.dn ⟨_, []⟩ 1 [v0] 1 [L0]
  rw [bFlushFrame_vc]
  refine ⟨trivial, fun v1 v2 L1 hq => ?_⟩
  have hL : L1 = linesB L0 := by
    have : [L1] = [linesB L0] := hq
    simpa using this
  refine ⟨fun xs ys => match xs, ys with | [i, n], [L] => 0 ≤ i ∧ i ≤ 8 ∧ L = (ffB L0 v0 i.toNat).1 ∧ n = (ffB L0 v0 i.toNat).2 | _, _ => False, fun xs _ => match xs with | i :: _ => (8 - i).toNat | _ => 0, ?_, ?_⟩ <;> dsimp only
  · exact ⟨by omega, by omega, rfl, rfl⟩
  · intro v3 v4 L2 hI
    obtain ⟨i0, i8, hl2, hn⟩ := hI
    obtain ⟨k, rfl⟩ : ∃ k : Nat, v3 = k := ⟨v3.toNat, by omega⟩
    rw [Int.toNat_natCast] at hl2 hn
    have hle := ffB_le L0 v0 k
    have hs := ffB_succ L0 v0 k
    have hk1 : ((k : Int) + 1).toNat = k + 1 := by omega
    refine ⟨fun c1 => ?_, fun c1 => ?_⟩
    · have hk : k < 8 := by omega
      intro v6 e6 v7 e7 v8 e8 v9 e9 v10 e10 v11 e11 v12 e12 v13 e13
      have g0 : v7 = gI L0 (k * 5) := by
        rw [e7, e6, hL, show ((k : Int) * 4).toNat = k * 4 + 0 by omega, linesB_at hk (by omega)]; simp
      have g1 : v9 = gI L0 (k * 5 + 1) := by
        rw [e9, e8, e6, hL, show ((k : Int) * 4 + 1).toNat = k * 4 + 1 by omega, linesB_at hk (by omega)]; simp
      have g2 : v11 = gI L0 (k * 5 + 2) := by
        rw [e11, e10, e6, hL, show ((k : Int) * 4 + 2).toNat = k * 4 + 2 by omega, linesB_at hk (by omega)]; simp
      rw [← g0, ← g1, ← g2, ← hl2, ← hn] at hs
      refine ⟨fun c2 => ⟨fun c3 => ?_, fun c3 => ?_⟩, fun c2 => ?_⟩
      · refine ⟨trivial, fun x L3 hx => ?_⟩
        have hx : [x] = [b2i (decide (atB L2 v7 v9 ≠ -1))] ∧ [L3] = [flushB L2 v7 v9] := hx
        have hx1 : x = b2i (decide (atB L2 v7 v9 ≠ -1)) := by simpa using hx.1
        have hx2 : L3 = flushB L2 v7 v9 := by simpa using hx.2
        refine ⟨fun c4 => ?_, fun c4 => ?_⟩
        · have h4 : atB L2 v7 v9 ≠ -1 := by
            intro h; rw [hx1] at c4; simp [h, b2i] at c4
          rw [if_pos ⟨c2, c3.symm, h4⟩] at hs
          intro v18 e18 v19 e19
          refine ⟨by omega, ⟨by omega, by omega, ?_, ?_⟩, by omega⟩
          · rw [e19, hk1, hs, hx2]
          · rw [e19, hk1, hs, e18]
        · have h4 : atB L2 v7 v9 = -1 := by
            cases Decidable.em (atB L2 v7 v9 = -1) with
            | inl h => exact h
            | inr h => rw [hx1] at c4; simp [h, b2i] at c4
          rw [if_neg (fun h => h.2.2 h4)] at hs
          intro v18 e18
          refine ⟨⟨by omega, by omega, ?_, ?_⟩, by omega⟩
          · rw [e18, hk1, hs, hx2, flushB_none h4, hl2]
          · rw [e18, hk1, hs, hn]
      · rw [if_neg (fun h => c3 h.2.1.symm)] at hs
        intro v18 e18
        refine ⟨⟨by omega, by omega, ?_, ?_⟩, by omega⟩
        · rw [e18, hk1, hs, hl2]
        · rw [e18, hk1, hs, hn]
      · rw [if_neg (fun h => by omega)] at hs
        intro v18 e18
        refine ⟨⟨by omega, by omega, ?_, ?_⟩, by omega⟩
        · rw [e18, hk1, hs, hl2]
        · rw [e18, hk1, hs, hn]
    · have hk : k = 8 := by omega
      subst hk
      show [v4] = [(ffB L0 v0 8).2] ∧ [L2] = [(ffB L0 v0 8).1]
      rw [hn, hl2]
      exact ⟨rfl, rfl⟩)
end Go.Proofs.YthjfkblnbecjgaaGreatDoor
