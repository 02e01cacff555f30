/- Contracts: the document's buffer: new, an entry's place. -/
import Derived.Test.YthjfkblnbecjgaaGreatDoorL2B
import Derived.Test.YthjfkblnbecjgaaGreatDoorL2R
set_option linter.unusedVariables false
set_option linter.unusedSimpArgs false
open Go Go.Sx
namespace Go.Proofs.YthjfkblnbecjgaaGreatDoor
set_option maxRecDepth 100000
noncomputable def rNew_t : Tree := .letL (.lit [.c (-1), .c (0), .c (0), .c (0), .c (-1), .c (0), .c (0), .c (0), .c (-1), .c (0), .c (0), .c (0), .c (-1), .c (0), .c (0), .c (0), .c (-1), .c (0), .c (0), .c (0), .c (-1), .c (0), .c (0), .c (0), .c (-1), .c (0), .c (0), .c (0), .c (-1), .c (0), .c (0), .c (0), .c (0), .c (0), .c (0), .c (0), .c (0), .c (0), .c (0), .c (0), .c (0)]) (.done [] [0])
theorem rNew_tree : (L2.rNew).exe Tryz.prog (L2.cfg2 Tryz.prog) [] 20 200 = rNew_t := by kernel_rfl
theorem rNew_vc (Q : List Int → List (List Int) → Prop) : rNew_t.dn ⟨Q, []⟩ 0 [] 0 [] = (∀ L0 : List Int, L0 = [((-1) : Int), (0 : Int), (0 : Int), (0 : Int), ((-1) : Int), (0 : Int), (0 : Int), (0 : Int), ((-1) : Int), (0 : Int), (0 : Int), (0 : Int), ((-1) : Int), (0 : Int), (0 : Int), (0 : Int), ((-1) : Int), (0 : Int), (0 : Int), (0 : Int), ((-1) : Int), (0 : Int), (0 : Int), (0 : Int), ((-1) : Int), (0 : Int), (0 : Int), (0 : Int), ((-1) : Int), (0 : Int), (0 : Int), (0 : Int), (0 : Int), (0 : Int), (0 : Int), (0 : Int), (0 : Int), (0 : Int), (0 : Int), (0 : Int), (0 : Int)] → Q [] [L0]) := by kernel_rfl
set_option maxHeartbeats 4000000 in
theorem rNew_holds : (L2.rNew).Holds Tryz.prog L2.ro := FSpec.holdsV (cfg := L2.cfg2 Tryz.prog) [] 20 200 cfg2_ok mixed (t := rNew_t) rNew_tree (by
  show _ → _
  intro   hp hr hl
  replace hr : True := hr
  replace hl : True := hl
  show rNew_t.dn ⟨_, []⟩ 0 [] 0 []
  rw [rNew_vc]
  intro L0 e0
  subst e0
  exact ⟨rfl, rfl⟩)
noncomputable def rFind0_t : Tree := .loop [.c (0)] [] (.letI (.cmp .lss (.v 2) (.c 8)) (.ite (.v 3) (.letI (.mul (.v 2) (.c 4)) (.letI (.get 0 (.v 4)) (.letI (.cmp .leq (.c 0) (.v 5)) (.ite (.v 6) (.letI (.cmp .eql (.v 0) (.v 5)) (.ite (.v 7) (.letI (.add (.v 4) (.c 1)) (.letI (.get 0 (.v 8)) (.letI (.cmp .eql (.v 1) (.v 9)) (.ite (.v 10) (.exit (.done [.v 2] [])) (.letI (.add (.v 2) (.c 1)) (.again [.v 11] [])))))) (.letI (.add (.v 2) (.c 1)) (.again [.v 8] [])))) (.letI (.add (.v 2) (.c 1)) (.again [.v 7] [])))))) (.exit (.done [.c (-1)] []))))
theorem rFind0_tree : (L2.rFind0).exe Tryz.prog (L2.cfg2 Tryz.prog) [{ f := 114, reg := 2, ints := [(8, 0, 8)] }] 20 200 = rFind0_t := by kernel_rfl
theorem rFind0_vc (Q : List Int → List (List Int) → Prop) (v0 v1 : Int) (L0 : List Int) : rFind0_t.dn ⟨Q, []⟩ 2 [v1, v0] 1 [L0] = (∃ (I0 : List Int → List (List Int) → Prop) (μ0 : List Int → List (List Int) → Nat), I0 [(0 : Int)] [] ∧
(∀ v2 : Int, I0 [v2] [] →
 ((v2 < (8 : Int)) → ∀ v4 : Int, v4 = v2 * (4 : Int) → ∀ v5 : Int, v5 = (L0).getD (v4).toNat 0 → (((0 : Int) ≤ v5) → ((v0 = v5) → ∀ v8 : Int, v8 = v4 + (1 : Int) → ∀ v9 : Int, v9 = (L0).getD (v8).toNat 0 → ((v1 = v9) → Q [v2] []) ∧
((v1 ≠ v9) → ∀ v11 : Int, v11 = v2 + (1 : Int) → (I0 [v11] [] ∧ μ0 [v11] [] < μ0 [v2] []))) ∧
((v0 ≠ v5) → ∀ v8 : Int, v8 = v2 + (1 : Int) → (I0 [v8] [] ∧ μ0 [v8] [] < μ0 [v2] []))) ∧
((v5 < (0 : Int)) → ∀ v7 : Int, v7 = v2 + (1 : Int) → (I0 [v7] [] ∧ μ0 [v7] [] < μ0 [v2] []))) ∧
(((8 : Int) ≤ v2) → Q [((-1) : Int)] []))) := by kernel_rfl
set_option maxHeartbeats 4000000 in
theorem rFind0_holds : (L2.rFind0).Holds Tryz.prog L2.ro := FSpec.holdsV (cfg := L2.cfg2 Tryz.prog) [{ f := 114, reg := 2, ints := [(8, 0, 8)] }] 20 200 cfg2_ok mixed (t := rFind0_t) rFind0_tree (by
  show ∀ (v0 v1 : Int) (L0 : List Int), _
  intro v0 v1 L0 hp hr hl
  replace hr : (((-9223372036854775808) : Int) ≤ v0 ∧ v0 ≤ ((9223372036854775807) : Int)) ∧ (((-9223372036854775808) : Int) ≤ v1 ∧ v1 ≤ ((9223372036854775807) : Int)) ∧ True := hr
  replace hl : (∀ x ∈ L0, (((-9223372036854775808) : Int) ≤ x ∧ x ≤ ((9223372036854775807) : Int))) ∧ True := hl
  show rFind0_t.dn ⟨_, []⟩ 2 [v1, v0] 1 [L0]
  rw [rFind0_vc]
  refine ⟨fun xs _ => match xs with | [i] => 0 ≤ i ∧ i ≤ 8 ∧ rfB L0 v0 v1 i.toNat = -1 | _ => False, fun xs _ => match xs with | i :: _ => (8 - i).toNat | _ => 0, ?_, ?_⟩ <;> dsimp only
  · exact ⟨by omega, by omega, rfl⟩
  · intro v2 hI
    obtain ⟨i0, i8, hn⟩ := hI
    obtain ⟨k, rfl⟩ : ∃ k : Nat, v2 = k := ⟨v2.toNat, by omega⟩
    rw [Int.toNat_natCast] at hn
    have hs := rfB_succ L0 v0 v1 k
    rw [if_neg (fun h => h hn)] at hs
    have hk1 : ((k : Int) + 1).toNat = k + 1 := by omega
    have g0 : ∀ x : Int, x = (L0).getD ((k : Int) * 4).toNat 0 → x = gI L0 (k * 4) := fun x h => h
    refine ⟨fun c1 => ?_, fun c1 => ?_⟩
    · intro v4 e4 v5 e5
      have g : v5 = gI L0 (k * 4) := by rw [e5, e4]; rfl
      refine ⟨fun c2 => ⟨fun c3 => ?_, fun c3 => ?_⟩, fun c2 => ?_⟩
      · intro v8 e8 v9 e9
        have g' : v9 = gI L0 (k * 4 + 1) := by rw [e9, e8, e4]; rfl
        refine ⟨fun c4 => ?_, fun c4 => ?_⟩
        · have hh : hitR L0 v0 v1 k = true := by simp [hitR, ← g, ← g', c2, c3, c4]
          rw [if_pos hh] at hs
          have h8 := rfB_stay (M := L0) (e := v0) (p := v1) (k := k + 1) (by omega) (n := 8) (by omega)
          show [(k : Int)] = [rfB L0 v0 v1 8]
          rw [h8, hs]
        · have hh : hitR L0 v0 v1 k = false := by
            simp only [hitR, ← g', Bool.and_eq_false_iff, decide_eq_false_iff_not]
            exact .inr (.inr (fun h => c4 h.symm))
          rw [hh] at hs
          intro v11 e11
          exact ⟨⟨by omega, by omega, by rw [e11, hk1, hs]; rfl⟩, by omega⟩
      · have hh : hitR L0 v0 v1 k = false := by
          simp only [hitR, ← g, Bool.and_eq_false_iff, decide_eq_false_iff_not]
          exact .inr (.inl (fun h => c3 h.symm))
        rw [hh] at hs
        intro v11 e11
        exact ⟨⟨by omega, by omega, by rw [e11, hk1, hs]; rfl⟩, by omega⟩
      · have hh : hitR L0 v0 v1 k = false := by
          simp only [hitR, ← g, Bool.and_eq_false_iff, decide_eq_false_iff_not]
          exact .inl (by omega)
        rw [hh] at hs
        intro v11 e11
        exact ⟨⟨by omega, by omega, by rw [e11, hk1, hs]; rfl⟩, by omega⟩
    · have hk : k = 8 := by omega
      subst hk
      show [(-1 : Int)] = [rfB L0 v0 v1 8]
      rw [hn])
end Go.Proofs.YthjfkblnbecjgaaGreatDoor
