/- Contract: where a number stands in an ascending slice. -/
import Derived.Test.YtpmgfdakljjlaabGreatDoorL2Facts
import Derived.Test.YtpmgfdakljjlaabGreatDoorSxM7
import Derived.Test.YtpmgfdakljjlaabGreatDoorL2M
import Derived.Test.YtpmgfdakljjlaabGreatDoorPuMm
set_option linter.unusedVariables false
set_option linter.constructorNameAsVariable false
set_option linter.unusedSimpArgs false
open Go Go.Sx
namespace Go.Proofs.YtpmgfdakljjlaabGreatDoor
set_option maxRecDepth 100000
noncomputable def sBin_t : Tree := .loop [.c (0), .v 0] [] (.letI (.cmp .lss (.v 3) (.v 4)) (.ite (.v 5) (.letI (.add (.v 3) (.v 4)) (.letI (.shr .u64 (.v 6) (.c 1)) (.letI (.wr .i64 (.v 7)) (.need .geq (.v 8) (.c 0) (.need .lss (.v 8) (.v 0) (.need .lss (.v 8) (.v 0) (.letI (.get 0 (.v 8)) (.letI (.cmp .lss (.v 9) (.v 2)) (.ite (.v 10) (.letI (.add (.v 8) (.c 1)) (.again [.v 11, .v 4] [])) (.again [.v 3, .v 8] [])))))))))) (.exit (.letI (.cmp .lss (.v 3) (.v 0)) (.ite (.v 6) (.need .lss (.v 3) (.v 0) (.need .lss (.v 3) (.v 0) (.letI (.get 0 (.v 3)) (.letI (.cmp .eql (.v 2) (.v 7)) (.ite (.v 8) (.done [.v 3, .c (1)] []) (.need .lss (.v 3) (.v 0) (.need .lss (.v 3) (.v 0) (.done [.v 3, .c (0)] [])))))))) (.done [.v 3, .c (0)] []))))))
theorem sBin_tree : (L2.sBin).exe Tryz.prog (L2.cfg Tryz.prog) [{ f := L2.f_slices_BinarySearch_uint64, reg := 3, ints := [(7, 0, 1000), (8, 0, 1000)] }] 20 200 = sBin_t := by kernel_rfl
theorem sBin_vc (Q : List Int → List (List Int) → Prop) (v0 v1 v2 : Int) (L0 : List Int) : sBin_t.dn ⟨Q, []⟩ 3 [v2, v1, v0] 1 [L0] = (∃ (I0 : List Int → List (List Int) → Prop) (μ0 : List Int → List (List Int) → Nat), I0 [(0 : Int), v0] [] ∧
(∀ v3 : Int, ∀ v4 : Int, I0 [v3, v4] [] →
 ((v3 < v4) → ∀ v6 : Int, v6 = v3 + v4 → ∀ v7 : Int, v7 = (v6).fdiv (2 ^ (min ((1 : Int)).toNat (IntKind.bits .u64))) → ∀ v8 : Int, v8 = IntKind.wrap .i64 v7 → ((0 : Int) ≤ v8) ∧ (v8 < v0) ∧ (v8 < v0) ∧ ∀ v9 : Int, v9 = (L0).getD (v8).toNat 0 → ((v9 < v2) → ∀ v11 : Int, v11 = v8 + (1 : Int) → (I0 [v11, v4] [] ∧ μ0 [v11, v4] [] < μ0 [v3, v4] [])) ∧
((v2 ≤ v9) → (I0 [v3, v8] [] ∧ μ0 [v3, v8] [] < μ0 [v3, v4] []))) ∧
((v4 ≤ v3) → ((v3 < v0) → (v3 < v0) ∧ (v3 < v0) ∧ ∀ v7 : Int, v7 = (L0).getD (v3).toNat 0 → ((v2 = v7) → Q [v3, (1 : Int)] []) ∧
((v2 ≠ v7) → (v3 < v0) ∧ (v3 < v0) ∧ Q [v3, (0 : Int)] [])) ∧
((v0 ≤ v3) → Q [v3, (0 : Int)] [])))) := by kernel_rfl
set_option maxHeartbeats 4000000 in
theorem sBin_holds : (L2.sBin).Holds Tryz.prog L2.ro := FSpec.holdsV (cfg := L2.cfg Tryz.prog) [{ f := L2.f_slices_BinarySearch_uint64, reg := 3, ints := [(7, 0, 1000), (8, 0, 1000)] }] 20 200 cfg_ok mixed (t := sBin_t) sBin_tree (by
  show ∀ (v0 v1 v2 : Int) (L0 : List Int), _
  intro v0 v1 v2 L0 hp hr hl
  replace hr : (((0) : Int) ≤ v0 ∧ v0 ≤ ((1000) : Int)) ∧ (((0) : Int) ≤ v1 ∧ v1 ≤ ((9223372036854775807) : Int)) ∧ (((0) : Int) ≤ v2 ∧ v2 ≤ ((18446744073709551615) : Int)) ∧ True := hr
  replace hl : (∀ x ∈ L0, (((0) : Int) ≤ x ∧ x ≤ ((18446744073709551615) : Int))) ∧ True := hl
  show sBin_t.dn ⟨_, []⟩ 3 [v2, v1, v0] 1 [L0]
  rw [sBin_vc]
  obtain ⟨⟨hn, hle⟩, hA⟩ := hp
  have hn : (L0.length : Int) = v0 := hn
  have hA : Asc L0 := hA
  clear hle
  refine ⟨fun xs _ => match xs with | [a, b] => ∃ i j : Nat, a = i ∧ b = j ∧ i ≤ j ∧ j ≤ L0.length ∧ (∀ k : Nat, k < i → L0.getD k 0 < v2) ∧ (∀ k : Nat, j ≤ k → k < L0.length → v2 ≤ L0.getD k 0) | _ => False, fun xs _ => match xs with | a :: b :: _ => (b - a).toNat | _ => 0, ?_, ?_⟩ <;> dsimp only
  · exact ⟨0, L0.length, rfl, by omega, by omega, by omega, fun k hk => by omega, fun k hk hk' => by omega⟩
  · intro a b hI
    obtain ⟨i, j, rfl, rfl, hij, hj, h1, h2⟩ := hI
    refine ⟨fun c v6 e6 v7 e7 v8 e8 => ?_, fun c => ?_⟩
    · have e7' : v7 = ((i + j) / 2 : Nat) := by
        have : (2 : Int) ^ (min ((1 : Int)).toNat (IntKind.bits .u64)) = 2 := by decide
        rw [e7, this, e6, Int.fdiv_eq_ediv_of_nonneg _ (by omega)]; omega
      obtain ⟨m, hm⟩ : ∃ m : Nat, m = (i + j) / 2 := ⟨_, rfl⟩
      have e8' : v8 = m := by rw [e8, wrapI, e7']; omega
      clear e8 e7 e7' e6
      subst e8'
      refine ⟨by omega, by omega, by omega, fun v9 e9 => ?_⟩
      rw [Int.toNat_natCast] at e9
      refine ⟨fun d v11 e11 => ⟨⟨m + 1, j, by omega, rfl, by omega, hj, fun k hk => ?_, h2⟩, by omega⟩, fun d => ⟨⟨i, m, rfl, rfl, by omega, by omega, h1, fun k hk hk' => ?_⟩, by omega⟩⟩
      · have hm' : L0.getD m 0 < v2 := by omega
        by_cases hkm : k = m
        · subst hkm; exact hm'
        · have := List.pairwise_iff_getElem.1 hA k m (by omega) (by omega) (by omega)
          have a1 : L0.getD k 0 = L0[k] := by simp [List.getD_eq_getElem?_getD, show k < L0.length by omega]
          have a2 : L0.getD m 0 = L0[m] := by simp [List.getD_eq_getElem?_getD, show m < L0.length by omega]
          omega
      · have hm' : v2 ≤ L0.getD m 0 := by omega
        by_cases hkm : k = m
        · subst hkm; exact hm'
        · have := List.pairwise_iff_getElem.1 hA m k (by omega) (by omega) (by omega)
          have a1 : L0.getD k 0 = L0[k] := by simp [List.getD_eq_getElem?_getD, show k < L0.length by omega]
          have a2 : L0.getD m 0 = L0[m] := by simp [List.getD_eq_getElem?_getD, show m < L0.length by omega]
          omega
    · have e : j = i := by omega
      subst e
      have hN := lessN_eq (v := v2) hj h1 fun h => h2 j (Nat.le_refl _) h
      have hM := asc_mem hA (v := v2) h1 fun h => h2 j (Nat.le_refl _) h
      refine ⟨fun d => ⟨d, d, fun v7 e7 => ⟨fun f => ?_, fun f => ⟨d, d, ?_⟩⟩⟩, fun d => ?_⟩
      · have : v2 ∈ L0 := hM.2 ⟨by omega, by rw [f, e7, Int.toNat_natCast]⟩
        show [(j : Int), 1] = [(lessN L0 v2 : Int), b2i (decide (v2 ∈ L0))] ∧ _
        rw [hN]; simp [this, b2i]
      · have : v2 ∉ L0 := fun c => f (by rw [e7, Int.toNat_natCast, (hM.1 c).2])
        show [(j : Int), 0] = [(lessN L0 v2 : Int), b2i (decide (v2 ∈ L0))] ∧ _
        rw [hN]; simp [this, b2i]
      · have : v2 ∉ L0 := fun c => by have := (hM.1 c).1; omega
        show [(j : Int), 0] = [(lessN L0 v2 : Int), b2i (decide (v2 ∈ L0))] ∧ _
        rw [hN]; simp [this, b2i])
end Go.Proofs.YtpmgfdakljjlaabGreatDoor
