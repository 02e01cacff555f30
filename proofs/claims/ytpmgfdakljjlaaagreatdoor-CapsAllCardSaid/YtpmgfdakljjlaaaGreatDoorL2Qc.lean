/- Contract: how many capabilities a frame has. -/
import Derived.Test.YtpmgfdakljjlaaaGreatDoorL2Facts
import Derived.Test.YtpmgfdakljjlaaaGreatDoorSxM7
import Derived.Test.YtpmgfdakljjlaaaGreatDoorL2S
import Derived.Test.YtpmgfdakljjlaaaGreatDoorPuZ
set_option linter.unusedVariables false
set_option linter.constructorNameAsVariable false
set_option linter.unusedSimpArgs false
open Go Go.Sx
namespace Go.Proofs.YtpmgfdakljjlaaaGreatDoor
set_option maxRecDepth 100000
noncomputable def rRefs_t : Tree := .loop [.c (0), .c (0)] [] (.letI (.cmp .lss (.v 1) (.c 4)) (.ite (.v 3) (.loop [.c (0), .v 2] [] (.letI (.cmp .lss (.v 4) (.c 8)) (.ite (.v 6) (.letI (.mul (.v 1) (.c 40)) (.letI (.add (.c 3) (.v 7)) (.letI (.mul (.v 4) (.c 5)) (.letI (.add (.v 8) (.v 9)) (.letI (.get 0 (.v 10)) (.ite (.v 11) (.ite (.v 11) (.ite (.v 11) (.ite (.v 11) (.ite (.v 11) (.ite (.v 11) (.ite (.v 11) (.ite (.v 11) (.letI (.add (.v 10) (.c 1)) (.ite (.v 11) (.letI (.get 0 (.v 12)) (.ite (.v 11) (.ite (.v 11) (.letI (.cmp .eql (.v 0) (.v 13)) (.ite (.v 11) (.ite (.v 14) (.letI (.add (.v 5) (.c 1)) (.letI (.add (.v 4) (.c 1)) (.need .leq (.v 15) (.c 32) (.again [.v 16, .v 15] [])))) (.letI (.add (.v 4) (.c 1)) (.again [.v 15, .v 5] []))) (.letI (.add (.v 4) (.c 1)) (.again [.v 15, .v 5] [])))) (.letI (.add (.v 4) (.c 1)) (.again [.v 14, .v 5] []))) (.letI (.add (.v 4) (.c 1)) (.again [.v 14, .v 5] [])))) (.letI (.add (.v 4) (.c 1)) (.again [.v 13, .v 5] [])))) (.letI (.add (.v 4) (.c 1)) (.again [.v 12, .v 5] []))) (.letI (.add (.v 4) (.c 1)) (.again [.v 12, .v 5] []))) (.letI (.add (.v 4) (.c 1)) (.again [.v 12, .v 5] []))) (.letI (.add (.v 4) (.c 1)) (.again [.v 12, .v 5] []))) (.letI (.add (.v 4) (.c 1)) (.again [.v 12, .v 5] []))) (.letI (.add (.v 4) (.c 1)) (.again [.v 12, .v 5] []))) (.letI (.add (.v 4) (.c 1)) (.again [.v 12, .v 5] []))) (.letI (.add (.v 4) (.c 1)) (.again [.v 12, .v 5] [])))))))) (.exit (.letI (.add (.v 1) (.c 1)) (.again [.v 7, .v 5] [])))))) (.exit (.done [.v 2] []))))
theorem rRefs_tree : (L2.rRefs).exe Tryz.prog (L2.cfg Tryz.prog) [{ f := L2.f_messuageref13_Kernel_Refs, reg := 3, ints := [(8, 0, 4), (5, 0, 32)] }, { f := L2.f_messuageref13_Kernel_Refs, reg := 6, ints := [(11, 0, 8), (5, 0, 32)] }] 20 200 = rRefs_t := by kernel_rfl
theorem rRefs_vc (Q : List Int → List (List Int) → Prop) (v0 : Int) (L0 : List Int) : rRefs_t.dn ⟨Q, []⟩ 1 [v0] 1 [L0] = (∃ (I0 : List Int → List (List Int) → Prop) (μ0 : List Int → List (List Int) → Nat), I0 [(0 : Int), (0 : Int)] [] ∧
(∀ v1 : Int, ∀ v2 : Int, I0 [v1, v2] [] →
 ((v1 < (4 : Int)) → ∃ (I1 : List Int → List (List Int) → Prop) (μ1 : List Int → List (List Int) → Nat), I1 [(0 : Int), v2] [] ∧
(∀ v4 : Int, ∀ v5 : Int, I1 [v4, v5] [] →
 ((v4 < (8 : Int)) → ∀ v7 : Int, v7 = v1 * (40 : Int) → ∀ v8 : Int, v8 = (3 : Int) + v7 → ∀ v9 : Int, v9 = v4 * (5 : Int) → ∀ v10 : Int, v10 = v8 + v9 → ∀ v11 : Int, v11 = (L0).getD (v10).toNat 0 → (v11 ≠ 0 → (v11 ≠ 0 → (v11 ≠ 0 → (v11 ≠ 0 → (v11 ≠ 0 → (v11 ≠ 0 → (v11 ≠ 0 → (v11 ≠ 0 → ∀ v12 : Int, v12 = v10 + (1 : Int) → (v11 ≠ 0 → ∀ v13 : Int, v13 = (L0).getD (v12).toNat 0 → (v11 ≠ 0 → (v11 ≠ 0 → ∀ v14 : Int, v14 = b2i (v0 == v13) → (v11 ≠ 0 → (v14 ≠ 0 → ∀ v15 : Int, v15 = v5 + (1 : Int) → ∀ v16 : Int, v16 = v4 + (1 : Int) → (v15 ≤ (32 : Int)) ∧ (I1 [v16, v15] [] ∧ μ1 [v16, v15] [] < μ1 [v4, v5] [])) ∧
(v14 = 0 → ∀ v15 : Int, v15 = v4 + (1 : Int) → (I1 [v15, v5] [] ∧ μ1 [v15, v5] [] < μ1 [v4, v5] []))) ∧
(v11 = 0 → ∀ v15 : Int, v15 = v4 + (1 : Int) → (I1 [v15, v5] [] ∧ μ1 [v15, v5] [] < μ1 [v4, v5] []))) ∧
(v11 = 0 → ∀ v14 : Int, v14 = v4 + (1 : Int) → (I1 [v14, v5] [] ∧ μ1 [v14, v5] [] < μ1 [v4, v5] []))) ∧
(v11 = 0 → ∀ v14 : Int, v14 = v4 + (1 : Int) → (I1 [v14, v5] [] ∧ μ1 [v14, v5] [] < μ1 [v4, v5] []))) ∧
(v11 = 0 → ∀ v13 : Int, v13 = v4 + (1 : Int) → (I1 [v13, v5] [] ∧ μ1 [v13, v5] [] < μ1 [v4, v5] []))) ∧
(v11 = 0 → ∀ v12 : Int, v12 = v4 + (1 : Int) → (I1 [v12, v5] [] ∧ μ1 [v12, v5] [] < μ1 [v4, v5] []))) ∧
(v11 = 0 → ∀ v12 : Int, v12 = v4 + (1 : Int) → (I1 [v12, v5] [] ∧ μ1 [v12, v5] [] < μ1 [v4, v5] []))) ∧
(v11 = 0 → ∀ v12 : Int, v12 = v4 + (1 : Int) → (I1 [v12, v5] [] ∧ μ1 [v12, v5] [] < μ1 [v4, v5] []))) ∧
(v11 = 0 → ∀ v12 : Int, v12 = v4 + (1 : Int) → (I1 [v12, v5] [] ∧ μ1 [v12, v5] [] < μ1 [v4, v5] []))) ∧
(v11 = 0 → ∀ v12 : Int, v12 = v4 + (1 : Int) → (I1 [v12, v5] [] ∧ μ1 [v12, v5] [] < μ1 [v4, v5] []))) ∧
(v11 = 0 → ∀ v12 : Int, v12 = v4 + (1 : Int) → (I1 [v12, v5] [] ∧ μ1 [v12, v5] [] < μ1 [v4, v5] []))) ∧
(v11 = 0 → ∀ v12 : Int, v12 = v4 + (1 : Int) → (I1 [v12, v5] [] ∧ μ1 [v12, v5] [] < μ1 [v4, v5] []))) ∧
(v11 = 0 → ∀ v12 : Int, v12 = v4 + (1 : Int) → (I1 [v12, v5] [] ∧ μ1 [v12, v5] [] < μ1 [v4, v5] []))) ∧
(((8 : Int) ≤ v4) → ∀ v7 : Int, v7 = v1 + (1 : Int) → (I0 [v7, v5] [] ∧ μ0 [v7, v5] [] < μ0 [v1, v2] [])))) ∧
(((4 : Int) ≤ v1) → Q [v2] []))) := by kernel_rfl
set_option maxHeartbeats 4000000 in
theorem rRefs_holds : (L2.rRefs).Holds Tryz.prog L2.ro := FSpec.holdsV (cfg := L2.cfg Tryz.prog) [{ f := L2.f_messuageref13_Kernel_Refs, reg := 3, ints := [(8, 0, 4), (5, 0, 32)] }, { f := L2.f_messuageref13_Kernel_Refs, reg := 6, ints := [(11, 0, 8), (5, 0, 32)] }] 20 200 cfg_ok mixed (t := rRefs_t) rRefs_tree (by
  show ∀ (v0 : Int) (L0 : List Int), _
  intro v0 L0 hp hr hl
  replace hr : (((-9223372036854775808) : Int) ≤ v0 ∧ v0 ≤ ((9223372036854775807) : Int)) ∧ True := hr
  replace hl : (∀ x ∈ L0, (((-9223372036854775808) : Int) ≤ x ∧ x ≤ ((18446744073709551615) : Int))) ∧ True := hl
  show rRefs_t.dn ⟨_, []⟩ 1 [v0] 1 [L0]
  rw [rRefs_vc]
  clear hl
  refine ⟨fun xs _ => match xs with | [i, c] => ∃ m : Nat, i = m ∧ m ≤ 4 ∧ 0 ≤ c ∧ c ≤ 8 * m ∧ ∀ T, KT T L0 → c * 2 = ((selC (qOf T v0) m).length : Int) | _ => False, fun xs _ => match xs with | i :: _ => (4 - i).toNat | _ => 0, ?_, ?_⟩ <;> dsimp only
  · exact ⟨0, rfl, by omega, by omega, by omega, fun T _ => rfl⟩
  · intro i c hI
    obtain ⟨m, rfl, m4, c0, c1, hc⟩ := hI
    refine ⟨fun k => ?_, fun k => ?_⟩
    · refine ⟨fun xs _ => match xs with | [j, c] => ∃ o : Nat, j = o ∧ o ≤ 8 ∧ 0 ≤ c ∧ c ≤ 8 * m + o ∧ ∀ T, KT T L0 → c * 2 = ((selC (qOf T v0) m ++ rowC (qOf T v0) m o).length : Int) | _ => False, fun xs _ => match xs with | j :: _ => (8 - j).toNat | _ => 0, ?_, ?_⟩ <;> dsimp only
      · exact ⟨0, rfl, by omega, c0, by omega, fun T h => by rw [hc T h]; simp [rowC]⟩
      · intro j c hI
        obtain ⟨o, rfl, o8, c0, c1, hc⟩ := hI
        refine ⟨fun k2 => ?_, fun k2 y ey => ?_⟩
        · intro x1 e1 x2 e2 x3 e3 x4 e4 w0 f0
          have rd : ∀ T, KT T L0 → w0 = b2i (decide (cG T m o 1 ≠ 0)) ∧ L0.getD (x4 + 1).toNat 0 = cG T m o 0 := fun T h => by
            have := h.rd (a := (m : Int)) (b := (o : Int)) (i := x4) (by omega) (by omega) (by omega) (by omega) (by omega)
            rw [← f0] at this
            exact ⟨this.1, this.2.1⟩
          have hrow : ∀ T, rowC (qOf T v0) m (o + 1) = if qOf T v0 m o then rowC (qOf T v0) m o ++ [(m : Int), (o : Int)] else rowC (qOf T v0) m o := fun T => rowC_succ _ _ _
          -- not this one
          have no : (w0 = 0 ∨ v0 ≠ L0.getD (x4 + 1).toNat 0) → ∃ o' : Nat, (o : Int) + 1 = o' ∧ o' ≤ 8 ∧ 0 ≤ c ∧ c ≤ 8 * m + o' ∧ ∀ T, KT T L0 → c * 2 = ((selC (qOf T v0) m ++ rowC (qOf T v0) m o').length : Int) := fun h => ⟨o + 1, by omega, by omega, c0, by omega, fun T hT => by
            obtain ⟨r0, r1⟩ := rd T hT
            have hq : qOf T v0 m o = false := by
              unfold qOf
              rcases h with h | h
              · by_cases hz : cG T m o 1 = 0
                · simp [hz]
                · rw [h] at r0; simp [hz, b2i] at r0
              · rw [r1] at h
                simp only [Bool.and_eq_false_iff, decide_eq_false_iff_not]
                exact .inr fun c => h c.symm
            rw [hrow, hq]
            simpa using hc T hT⟩
          clear hp hr
          refine ⟨fun z => ?_, fun z y ey => ?_⟩
          rotate_left
          · rw [ey]; exact ⟨no (.inl z), by omega⟩
          refine ⟨fun _ => ?_, fun z' => absurd z' z⟩
          refine ⟨fun _ => ?_, fun z' => absurd z' z⟩
          refine ⟨fun _ => ?_, fun z' => absurd z' z⟩
          refine ⟨fun _ => ?_, fun z' => absurd z' z⟩
          refine ⟨fun _ => ?_, fun z' => absurd z' z⟩
          refine ⟨fun _ => ?_, fun z' => absurd z' z⟩
          refine ⟨fun _ y1 g1 => ?_, fun z' => absurd z' z⟩
          refine ⟨fun _ w1 f1 => ?_, fun z' => absurd z' z⟩
          refine ⟨fun _ => ?_, fun z' => absurd z' z⟩
          refine ⟨fun _ u eu => ?_, fun z' => absurd z' z⟩
          refine ⟨fun _ => ?_, fun z' => absurd z' z⟩
          rw [g1] at f1
          refine ⟨fun hu c' ec y ey => ⟨by omega, ⟨o + 1, by omega, by omega, by omega, by omega, fun T hT => ?_⟩, by omega⟩, fun hu y ey => ?_⟩
          · obtain ⟨r0, r1⟩ := rd T hT
            rw [← f1] at r1
            have hvw : v0 = w1 := by
              by_cases h : v0 = w1
              · exact h
              · rw [eu] at hu; simp [h, b2i] at hu
            have hz : cG T m o 1 ≠ 0 := fun h => z (by rw [r0]; simp [h, b2i])
            have hq : qOf T v0 m o = true := by
              unfold qOf
              rw [← r1, ← hvw]
              simp [hz]
            have := hc T hT
            rw [hrow, hq, if_pos rfl, ← List.append_assoc, List.length_append]
            simp only [List.length_cons, List.length_nil]
            omega
          · rw [ey]
            refine ⟨no (.inr fun h => ?_), by omega⟩
            rw [← f1] at h
            rw [eu] at hu
            simp [h, b2i] at hu
        · have : o = 8 := by omega
          subst this
          exact ⟨⟨m + 1, by omega, by omega, c0, by omega, fun T h => by rw [hc T h, selC_succ]⟩, by omega⟩
    · have : m = 4 := by omega
      subst this
      exact fun T h => hc T h)
end Go.Proofs.YtpmgfdakljjlaaaGreatDoor
