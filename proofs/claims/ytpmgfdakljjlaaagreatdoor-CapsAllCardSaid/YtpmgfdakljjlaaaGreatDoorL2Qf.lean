/- Contract: the same places? -/
import Derived.Test.YtpmgfdakljjlaaaGreatDoorL2Facts
import Derived.Test.YtpmgfdakljjlaaaGreatDoorSxM7
import Derived.Test.YtpmgfdakljjlaaaGreatDoorL2S
import Derived.Test.YtpmgfdakljjlaaaGreatDoorPuZ
set_option linter.unusedVariables false
set_option linter.constructorNameAsVariable false
set_option linter.unusedSimpArgs false
open Go Go.Sx
namespace Go.Proofs.YtpmgfdakljjlaaaGreatDoor
set_option maxRecDepth 100000
noncomputable def lPlaces_t : Tree := .letI (.pick (.v 1) (.v 0) (.c 0)) (.letI (.pick (.v 5) (.v 4) (.c 0)) (.letI (.cmp .neq (.v 8) (.v 9)) (.ite (.v 10) (.done [.c (0)] []) (.loop [.c (0)] [] (.letI (.cmp .lss (.v 11) (.v 8)) (.ite (.v 12) (.need .neq (.v 1) (.c 0) (.need .lss (.v 11) (.v 0) (.letI (.mul (.v 11) (.c 2)) (.need .lss (.v 13) (.v 2) (.letI (.get 0 (.v 13)) (.need .neq (.v 5) (.c 0) (.need .lss (.v 11) (.v 4) (.need .lss (.v 13) (.v 6) (.letI (.get 1 (.v 13)) (.letI (.cmp .neq (.v 14) (.v 15)) (.ite (.v 16) (.both (.exit (.done [.c (0)] [])) (.exit (.done [.c (0)] []))) (.need .lss (.v 11) (.v 0) (.letI (.add (.v 13) (.c 1)) (.need .lss (.v 17) (.v 2) (.letI (.get 0 (.v 17)) (.need .lss (.v 11) (.v 4) (.need .lss (.v 17) (.v 6) (.letI (.get 1 (.v 17)) (.letI (.cmp .neq (.v 18) (.v 19)) (.ite (.v 20) (.exit (.done [.c (0)] [])) (.letI (.add (.v 11) (.c 1)) (.again [.v 21] [])))))))))))))))))))))) (.exit (.done [.c (1)] []))))))))
theorem lPlaces_tree : (L2.lPlaces).exe Tryz.prog (L2.cfg Tryz.prog) [{ f := L2.f_messuagelaw11_places, reg := 4, ints := [(13, 0, 32)] }] 20 200 = lPlaces_t := by kernel_rfl
theorem lPlaces_vc (Q : List Int → List (List Int) → Prop) (v0 v1 v2 v3 v4 v5 v6 v7 : Int) (L0 L1 : List Int) : lPlaces_t.dn ⟨Q, []⟩ 8 [v7, v6, v5, v4, v3, v2, v1, v0] 2 [L1, L0] = (∀ v8 : Int, v8 = (if v1 = 0 then (0 : Int) else v0) → ∀ v9 : Int, v9 = (if v5 = 0 then (0 : Int) else v4) → ((v8 ≠ v9) → Q [(0 : Int)] []) ∧
((v8 = v9) → ∃ (I0 : List Int → List (List Int) → Prop) (μ0 : List Int → List (List Int) → Nat), I0 [(0 : Int)] [] ∧
(∀ v11 : Int, I0 [v11] [] →
 ((v11 < v8) → (v1 ≠ (0 : Int)) ∧ (v11 < v0) ∧ ∀ v13 : Int, v13 = v11 * (2 : Int) → (v13 < v2) ∧ ∀ v14 : Int, v14 = (L0).getD (v13).toNat 0 → (v5 ≠ (0 : Int)) ∧ (v11 < v4) ∧ (v13 < v6) ∧ ∀ v15 : Int, v15 = (L1).getD (v13).toNat 0 → ((v14 ≠ v15) → (Q [(0 : Int)] []) ∧
(Q [(0 : Int)] [])) ∧
((v14 = v15) → (v11 < v0) ∧ ∀ v17 : Int, v17 = v13 + (1 : Int) → (v17 < v2) ∧ ∀ v18 : Int, v18 = (L0).getD (v17).toNat 0 → (v11 < v4) ∧ (v17 < v6) ∧ ∀ v19 : Int, v19 = (L1).getD (v17).toNat 0 → ((v18 ≠ v19) → Q [(0 : Int)] []) ∧
((v18 = v19) → ∀ v21 : Int, v21 = v11 + (1 : Int) → (I0 [v21] [] ∧ μ0 [v21] [] < μ0 [v11] [])))) ∧
((v8 ≤ v11) → Q [(1 : Int)] [])))) := by kernel_rfl
set_option maxHeartbeats 4000000 in
theorem lPlaces_holds : (L2.lPlaces).Holds Tryz.prog L2.ro := FSpec.holdsV (cfg := L2.cfg Tryz.prog) [{ f := L2.f_messuagelaw11_places, reg := 4, ints := [(13, 0, 32)] }] 20 200 cfg_ok mixed (t := lPlaces_t) lPlaces_tree (by
  show ∀ (v0 v1 v2 v3 v4 v5 v6 v7 : Int) (L0 L1 : List Int), _
  intro v0 v1 v2 v3 v4 v5 v6 v7 L0 L1 hp hr hl
  replace hr : (((0) : Int) ≤ v0 ∧ v0 ≤ ((32) : Int)) ∧ (((0) : Int) ≤ v1 ∧ v1 ≤ ((9223372036854775807) : Int)) ∧ (((0) : Int) ≤ v2 ∧ v2 ≤ ((64) : Int)) ∧ (((0) : Int) ≤ v3 ∧ v3 ≤ ((18446744073709551614) : Int)) ∧ (((0) : Int) ≤ v4 ∧ v4 ≤ ((32) : Int)) ∧ (((0) : Int) ≤ v5 ∧ v5 ≤ ((9223372036854775807) : Int)) ∧ (((0) : Int) ≤ v6 ∧ v6 ≤ ((64) : Int)) ∧ (((0) : Int) ≤ v7 ∧ v7 ≤ ((18446744073709551614) : Int)) ∧ True := hr
  replace hl : (∀ x ∈ L0, (((0) : Int) ≤ x ∧ x ≤ ((7) : Int))) ∧ (∀ x ∈ L1, (((0) : Int) ≤ x ∧ x ≤ ((7) : Int))) ∧ True := hl
  show lPlaces_t.dn ⟨_, []⟩ 8 [v7, v6, v5, v4, v3, v2, v1, v0] 2 [L1, L0]
  rw [lPlaces_vc]
  obtain ⟨⟨a1, a2, a3⟩, b1, b2, b3⟩ := hp
  have a1 : v0 ≤ v1 := a1
  have a2 : v2 = v0 * 2 := a2
  have a3 : (L0.length : Int) = v2 := a3
  have b1 : v4 ≤ v5 := b1
  have b2 : v6 = v4 * 2 := b2
  have b3 : (L1.length : Int) = v6 := b3
  clear hl
  intro x8 e8 x9 e9
  have e8 : x8 = v0 := by rw [e8]; split <;> omega
  have e9 : x9 = v4 := by rw [e9]; split <;> omega
  have no : L0 ≠ L1 → [(0 : Int)] = [b2i (decide (L0 = L1))] := fun h => by simp [h, b2i]
  refine ⟨fun c => ⟨no (fun h => by rw [h] at a3; omega), rfl⟩, fun c => ?_⟩
  refine ⟨fun xs _ => match xs with | [i] => ∃ k : Nat, i = k ∧ k ≤ v0 ∧ ∀ j : Nat, j < 2 * k → L0.getD j 0 = L1.getD j 0 | _ => False, fun xs _ => match xs with | i :: _ => (v0 - i).toNat | _ => 0, ?_, ?_⟩ <;> dsimp only
  · exact ⟨0, rfl, by omega, fun j hj => by omega⟩
  · intro i hI
    obtain ⟨k, rfl, kv, hj⟩ := hI
    refine ⟨fun d => ?_, fun d => ?_⟩
    · refine ⟨by omega, by omega, fun x13 e13 => ⟨by omega, fun w f => ⟨by omega, by omega, by omega, fun u g => ?_⟩⟩⟩
      have hw : w = L0.getD (2 * k) 0 := by rw [f, e13]; congr 1; omega
      have hu : u = L1.getD (2 * k) 0 := by rw [g, e13]; congr 1; omega
      refine ⟨fun z => ?_, fun z => ⟨by omega, fun x17 e17 => ⟨by omega, fun w' f' => ⟨by omega, by omega, fun u' g' => ?_⟩⟩⟩⟩
      · have : L0 ≠ L1 := fun h => z (by rw [hw, hu, h])
        exact ⟨⟨no this, rfl⟩, no this, rfl⟩
      · have hw' : w' = L0.getD (2 * k + 1) 0 := by rw [f', e17, e13]; congr 1; omega
        have hu' : u' = L1.getD (2 * k + 1) 0 := by rw [g', e17, e13]; congr 1; omega
        refine ⟨fun z' => ⟨no fun h => z' (by rw [hw', hu', h]), rfl⟩, fun z' j ej => ⟨⟨k + 1, by omega, by omega, fun q hq => ?_⟩, by omega⟩⟩
        by_cases q1 : q < 2 * k
        · exact hj q q1
        · by_cases q2 : q = 2 * k
          · subst q2; rw [← hw, ← hu]; exact z
          · have : q = 2 * k + 1 := by omega
            subst this; rw [← hw', ← hu']; exact z'
    · have hE : L0 = L1 := by
        apply List.ext_getElem?
        intro q
        by_cases h : q < L0.length
        · have := hj q (by omega)
          rw [List.getD_eq_getElem?_getD, List.getD_eq_getElem?_getD, List.getElem?_eq_getElem h, List.getElem?_eq_getElem (show q < L1.length by omega)] at this
          rw [List.getElem?_eq_getElem h, List.getElem?_eq_getElem (show q < L1.length by omega)]
          simpa using this
        · rw [List.getElem?_eq_none (by omega), List.getElem?_eq_none (by omega)]
      show [(1 : Int)] = [b2i (decide (L0 = L1))] ∧ _
      exact ⟨by simp [hE, b2i], rfl⟩)
end Go.Proofs.YtpmgfdakljjlaaaGreatDoor
