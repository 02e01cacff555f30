/- Contracts: words as entries. -/
import Derived.Test.YthjfkblnbecjgaaGreatDoorL2Kp
set_option linter.unusedVariables false
set_option linter.unusedSimpArgs false
open Go Go.Sx
namespace Go.Proofs.YthjfkblnbecjgaaGreatDoor
set_option maxRecDepth 100000
theorem kp_ok : (withS (L2.cfg2 Tryz.prog) [L2.put_ 52, L2.put_ 77]).Ok Tryz.prog := withS_ok cfg2_ok ⟨pPut_holds, rPte_holds, trivial⟩
noncomputable def pGet_t : Tree := .letI (.cmp .leq (.c 65536) (.v 0)) (.ite (.v 1) (.done [.c (0), .c (0), .c (0), .c (0)] []) (.letI (.rem (.v 0) (.c 32768)) (.letI (.quo .i64 (.v 2) (.c 256)) (.letI (.rem (.v 0) (.c 256)) (.letI (.quo .i64 (.v 4) (.c 16)) (.letI (.rem (.v 0) (.c 16)) (.call 52 (Go.Sx.L2.put_ 52).rel [.v 3, .v 5, .v 6] [] 2 0 (.letI (.not (.v 8)) (.ite (.v 9) (.done [.c (0), .c (0), .c (0), .c (0)] []) (.letI (.cmp .neq (.v 0) (.v 7)) (.ite (.v 10) (.done [.c (0), .c (0), .c (0), .c (0)] []) (.need .leq (.v 3) (.c 15) (.need .leq (.v 5) (.c 7) (.need .leq (.v 6) (.c 3) (.done [.v 3, .v 5, .v 6, .c (1)] [])))))))))))))))
theorem pGet_tree : (L2.get_ 53).exe Tryz.prog (withS (L2.cfg2 Tryz.prog) [L2.put_ 52, L2.put_ 77]) [] 20 200 = pGet_t := by kernel_rfl
theorem pGet_vc (Q : List Int → List (List Int) → Prop) (v0 : Int) : pGet_t.dn ⟨Q, []⟩ 1 [v0] 0 [] = ((((65536 : Int) ≤ v0) → Q [(0 : Int), (0 : Int), (0 : Int), (0 : Int)] []) ∧
((v0 < (65536 : Int)) → ∀ v2 : Int, v2 = (v0).tmod (32768 : Int) → ∀ v3 : Int, v3 = IntKind.wrap .i64 ((v2).tdiv (256 : Int)) → ∀ v4 : Int, v4 = (v0).tmod (256 : Int) → ∀ v5 : Int, v5 = IntKind.wrap .i64 ((v4).tdiv (16 : Int)) → ∀ v6 : Int, v6 = (v0).tmod (16 : Int) → (Go.Sx.L2.put_ 52).rel.pre [v3, v5, v6] [] ∧
(∀ v7 : Int, ∀ v8 : Int, (Go.Sx.L2.put_ 52).rel.post [v3, v5, v6] [] [v7, v8] [] → ∀ v9 : Int, v9 = b2i (v8 == 0) → (v9 ≠ 0 → Q [(0 : Int), (0 : Int), (0 : Int), (0 : Int)] []) ∧
(v9 = 0 → ((v0 ≠ v7) → Q [(0 : Int), (0 : Int), (0 : Int), (0 : Int)] []) ∧
((v0 = v7) → (v3 ≤ (15 : Int)) ∧ (v5 ≤ (7 : Int)) ∧ (v6 ≤ (3 : Int)) ∧ Q [v3, v5, v6, (1 : Int)] []))))) := by kernel_rfl
set_option maxHeartbeats 4000000 in
theorem pGet_holds : (L2.get_ 53).Holds Tryz.prog L2.ro := FSpec.holdsV (cfg := withS (L2.cfg2 Tryz.prog) [L2.put_ 52, L2.put_ 77]) [] 20 200 kp_ok mixed (t := pGet_t) pGet_tree (by
  show ∀ (v0 : Int) , _
  intro v0  hp hr hl
  replace hr : (((0) : Int) ≤ v0 ∧ v0 ≤ ((18446744073709551615) : Int)) ∧ True := hr
  replace hl : True := hl
  show pGet_t.dn ⟨_, []⟩ 1 [v0] 0 []
  rw [pGet_vc]
  refine ⟨fun c1 => ?_, fun c1 => ?_⟩
  · show [_, _, _, _] = [getF v0, getS v0, getR v0, b2i (getOk v0)]
    have h : wordOk v0 = false := by simp [wordOk]; omega
    have h0 : ¬ v0 = 0 := by omega
    simp [getF, getS, getR, getOk, h, h0, b2i]
  · intro v2 e2 v3 e3 v4 e4 v5 e5 v6 e6
    have t0 : v2 = v0 % 32768 := by rw [e2]; exact Int.tmod_eq_emod_of_nonneg (by omega)
    have t1 : v3 = v0 % 32768 / 256 := by rw [e3, wrapI, t0, Int.tdiv_eq_ediv_of_nonneg (by omega)]; omega
    have t2 : v4 = v0 % 256 := by rw [e4]; exact Int.tmod_eq_emod_of_nonneg (by omega)
    have t3 : v5 = v0 % 256 / 16 := by rw [e5, wrapI, t2, Int.tdiv_eq_ediv_of_nonneg (by omega)]; omega
    have t4 : v6 = v0 % 16 := by rw [e6]; exact Int.tmod_eq_emod_of_nonneg (by omega)
    clear e2 e3 e4 e5 e6
    refine ⟨trivial, fun v7 v8 hq => ?_⟩
    have hq : [v7, v8] = [pteN v3 v5 v6, b2i (pteOk v3 v5 v6)] := hq
    simp only [List.cons.injEq, and_true] at hq
    obtain ⟨q7, q8⟩ := hq
    intro v9 e9
    by_cases hw : wordOk v0
    · have hw' := hw
      simp only [wordOk, rightsB, Bool.and_eq_true, decide_eq_true_eq] at hw'
      have hp : pteOk v3 v5 v6 = true := by simp [pteOk, rightsB]; omega
      have h7 : v7 = v0 := by rw [q7]; simp only [pteN, hp]; rw [if_pos ⟨trivial, by omega⟩]; omega
      have h9 : v9 = 0 := by rw [e9, q8, hp]; rfl
      refine ⟨fun c => absurd h9 c, fun _ => ⟨fun c => absurd h7.symm c, fun _ => ⟨by omega, by omega, by omega, ?_⟩⟩⟩
      show [_, _, _, _] = [getF v0, getS v0, getR v0, b2i (getOk v0)]
      have h0 : decide (v0 % 32768 / 256 < 16) = true := decide_eq_true (by omega)
      simp [getF, getS, getR, getOk, hw, b2i, t1, t3, t4, h0]
    · have hw : wordOk v0 = false := by simpa using hw
      have hw' := hw
      simp only [wordOk, rightsB, Bool.and_eq_false_iff, decide_eq_false_iff_not] at hw'
      have out : ∀ c : Int, c = b2i (decide (v0 = 0)) → [0, 0, 0, c] = [getF v0, getS v0, getR v0, b2i (getOk v0)] := by
        intro c hc; simp [getF, getS, getR, getOk, hw, hc]
      by_cases h0 : v0 = 0
      · have hp : pteOk v3 v5 v6 = true := by simp [pteOk]; omega
        have h7 : v7 = v0 := by rw [q7]; simp only [pteN]; rw [if_neg (by omega)]; omega
        have h9 : v9 = 0 := by rw [e9, q8, hp]; rfl
        refine ⟨fun c => absurd h9 c, fun _ => ⟨fun c => absurd h7.symm c, fun _ => ⟨by omega, by omega, by omega, ?_⟩⟩⟩
        have a1 : v3 = 0 := by omega
        have a2 : v5 = 0 := by omega
        have a3 : v6 = 0 := by omega
        rw [a1, a2, a3]
        exact out 1 (by simp [h0, b2i])
      · have no : ¬ (pteOk v3 v5 v6 = true ∧ v0 = v7) := by
          rintro ⟨hp, he⟩
          rw [q7] at he
          simp only [pteN, hp, true_and] at he
          simp only [pteOk, rightsB, Bool.or_eq_true, Bool.and_eq_true, decide_eq_true_eq] at hp
          split at he <;> omega
        refine ⟨fun c => out 0 (by simp [h0, b2i]), fun c => ⟨fun _ => out 0 (by simp [h0, b2i]), fun c2 => absurd ⟨?_, c2⟩ no⟩⟩
        rw [e9, q8] at c
        revert c
        cases pteOk v3 v5 v6 <;> simp [b2i])
noncomputable def rGet_t : Tree := .letI (.cmp .eql (.v 0) (.c 0)) (.ite (.v 1) (.done [.c (0), .c (0), .c (0), .c (1)] []) (.loop [.c (0)] [] (.letI (.cmp .lss (.v 2) (.c 16)) (.ite (.v 3) (.loop [.c (0)] [] (.letI (.cmp .lss (.v 4) (.c 8)) (.ite (.v 5) (.loop [.c (1)] [] (.letI (.cmp .leq (.v 6) (.c 3)) (.ite (.v 7) (.call 77 (Go.Sx.L2.put_ 77).rel [.v 2, .v 4, .v 6] [] 2 0 (.letI (.cmp .eql (.v 0) (.v 8)) (.ite (.v 10) (.exit (.exit (.exit (.done [.v 2, .v 4, .v 6, .c (1)] [])))) (.letI (.add (.v 6) (.c 1)) (.again [.v 11] []))))) (.exit (.letI (.add (.v 4) (.c 1)) (.again [.v 8] [])))))) (.exit (.letI (.add (.v 2) (.c 1)) (.again [.v 6] [])))))) (.exit (.done [.c (0), .c (0), .c (0), .c (0)] []))))))
theorem rGet_tree : (L2.get_ 78).exe Tryz.prog (withS (L2.cfg2 Tryz.prog) [L2.put_ 52, L2.put_ 77]) [{ f := 78, reg := 4, ints := [(4, 0, 16)] }, { f := 78, reg := 7, ints := [(5, 0, 8)] }, { f := 78, reg := 10, ints := [(6, 1, 4)] }] 20 200 = rGet_t := by kernel_rfl
theorem rGet_vc (Q : List Int → List (List Int) → Prop) (v0 : Int) : rGet_t.dn ⟨Q, []⟩ 1 [v0] 0 [] = (((v0 = (0 : Int)) → Q [(0 : Int), (0 : Int), (0 : Int), (1 : Int)] []) ∧
((v0 ≠ (0 : Int)) → ∃ (I0 : List Int → List (List Int) → Prop) (μ0 : List Int → List (List Int) → Nat), I0 [(0 : Int)] [] ∧
(∀ v2 : Int, I0 [v2] [] →
 ((v2 < (16 : Int)) → ∃ (I1 : List Int → List (List Int) → Prop) (μ1 : List Int → List (List Int) → Nat), I1 [(0 : Int)] [] ∧
(∀ v4 : Int, I1 [v4] [] →
 ((v4 < (8 : Int)) → ∃ (I2 : List Int → List (List Int) → Prop) (μ2 : List Int → List (List Int) → Nat), I2 [(1 : Int)] [] ∧
(∀ v6 : Int, I2 [v6] [] →
 ((v6 ≤ (3 : Int)) → (Go.Sx.L2.put_ 77).rel.pre [v2, v4, v6] [] ∧
(∀ v8 : Int, ∀ v9 : Int, (Go.Sx.L2.put_ 77).rel.post [v2, v4, v6] [] [v8, v9] [] → ((v0 = v8) → Q [v2, v4, v6, (1 : Int)] []) ∧
((v0 ≠ v8) → ∀ v11 : Int, v11 = v6 + (1 : Int) → (I2 [v11] [] ∧ μ2 [v11] [] < μ2 [v6] [])))) ∧
(((3 : Int) < v6) → ∀ v8 : Int, v8 = v4 + (1 : Int) → (I1 [v8] [] ∧ μ1 [v8] [] < μ1 [v4] [])))) ∧
(((8 : Int) ≤ v4) → ∀ v6 : Int, v6 = v2 + (1 : Int) → (I0 [v6] [] ∧ μ0 [v6] [] < μ0 [v2] [])))) ∧
(((16 : Int) ≤ v2) → Q [(0 : Int), (0 : Int), (0 : Int), (0 : Int)] [])))) := by kernel_rfl
set_option maxHeartbeats 4000000 in
theorem rGet_holds : (L2.get_ 78).Holds Tryz.prog L2.ro := FSpec.holdsV (cfg := withS (L2.cfg2 Tryz.prog) [L2.put_ 52, L2.put_ 77]) [{ f := 78, reg := 4, ints := [(4, 0, 16)] }, { f := 78, reg := 7, ints := [(5, 0, 8)] }, { f := 78, reg := 10, ints := [(6, 1, 4)] }] 20 200 kp_ok mixed (t := rGet_t) rGet_tree (by
  show ∀ (v0 : Int) , _
  intro v0  hp hr hl
  replace hr : (((0) : Int) ≤ v0 ∧ v0 ≤ ((18446744073709551615) : Int)) ∧ True := hr
  replace hl : True := hl
  show rGet_t.dn ⟨_, []⟩ 1 [v0] 0 []
  rw [rGet_vc]
  refine ⟨fun c1 => ?_, fun c1 => ?_⟩
  · show [_, _, _, _] = [getF v0, getS v0, getR v0, b2i (getOk v0)]
    subst c1; decide
  · refine ⟨fun xs _ => match xs with | [i] => 0 ≤ i ∧ ∀ f s r : Int, 0 ≤ f → f < i → 0 ≤ s → s < 8 → 1 ≤ r → r ≤ 3 → 32768 + 256 * f + 16 * s + r ≠ v0 | _ => False, fun xs _ => match xs with | i :: _ => (16 - i).toNat | _ => 0, ?_, ?_⟩ <;> dsimp only
    · exact ⟨by omega, fun f s r _ _ => by omega⟩
    · intro v2 hI
      refine ⟨fun c2 => ?_, fun c2 => ?_⟩
      · refine ⟨fun xs _ => match xs with | [j] => 0 ≤ j ∧ ∀ s r : Int, 0 ≤ s → s < j → 1 ≤ r → r ≤ 3 → 32768 + 256 * v2 + 16 * s + r ≠ v0 | _ => False, fun xs _ => match xs with | i :: _ => (8 - i).toNat | _ => 0, ?_, ?_⟩ <;> dsimp only
        · exact ⟨by omega, fun s r _ _ => by omega⟩
        · intro v4 hJ
          refine ⟨fun c3 => ?_, fun c3 => ?_⟩
          · refine ⟨fun xs _ => match xs with | [k] => 1 ≤ k ∧ ∀ r : Int, 1 ≤ r → r < k → 32768 + 256 * v2 + 16 * v4 + r ≠ v0 | _ => False, fun xs _ => match xs with | i :: _ => (4 - i).toNat | _ => 0, ?_, ?_⟩ <;> dsimp only
            · exact ⟨by omega, fun r _ _ => by omega⟩
            · intro v6 hK
              refine ⟨fun c4 => ⟨trivial, fun v8 v9 hq => ?_⟩, fun c4 => ?_⟩
              · have hq : [v8, v9] = [pteN v2 v4 v6, b2i (pteOk v2 v4 v6)] := hq
                simp only [List.cons.injEq, and_true] at hq
                obtain ⟨q8, q9⟩ := hq
                have hp : pteOk v2 v4 v6 = true := by simp [pteOk, rightsB]; omega
                have h8 : v8 = 32768 + 256 * v2 + 16 * v4 + v6 := by rw [q8]; simp only [pteN, hp]; rw [if_pos ⟨trivial, by omega⟩]
                refine ⟨fun c5 => ?_, fun c5 => ?_⟩
                · show [_, _, _, _] = [getF v0, getS v0, getR v0, b2i (getOk v0)]
                  have hw : wordOk v0 = true := by simp only [wordOk, rightsB, Bool.and_eq_true, decide_eq_true_eq]; omega
                  have h0 : decide (v0 % 32768 / 256 < 16) = true := decide_eq_true (by omega)
                  simp only [getF, getS, getR, getOk, hw, h0, b2i, if_true, Bool.or_true, Bool.true_and]
                  simp only [List.cons.injEq, and_true]
                  omega
                · intro v11 e11
                  refine ⟨⟨by omega, fun r h1 h2 => ?_⟩, by omega⟩
                  by_cases hr : r = v6
                  · omega
                  · exact hK.2 r h1 (by omega)
              · intro v8 e8
                refine ⟨⟨by omega, fun s r h1 h2 h3 h4 => ?_⟩, by omega⟩
                by_cases hs : s = v4
                · rw [hs]; exact hK.2 r h3 (by omega)
                · exact hJ.2 s r h1 (by omega) h3 h4
          · intro v6 e6
            refine ⟨⟨by omega, fun f s r h1 h2 h3 h4 h5 h6 => ?_⟩, by omega⟩
            by_cases hf : f = v2
            · rw [hf]; exact hJ.2 s r h3 (by omega) h5 h6
            · exact hI.2 f s r h1 (by omega) h3 h4 h5 h6
      · show [_, _, _, _] = [getF v0, getS v0, getR v0, b2i (getOk v0)]
        have hw : wordOk v0 = false := by
          cases hw : wordOk v0 with
          | false => rfl
          | true =>
            simp only [wordOk, rightsB, Bool.and_eq_true, decide_eq_true_eq] at hw
            exact absurd (by omega) (hI.2 (v0 % 32768 / 256) (v0 % 256 / 16) (v0 % 16) (by omega) (by omega) (by omega) (by omega) (by omega) (by omega))
        simp [getF, getS, getR, getOk, hw, c1, b2i])
end Go.Proofs.YthjfkblnbecjgaaGreatDoor
