/- Contract: places emptied. -/
import Derived.Test.YtpmgfdakljjlaaaGreatDoorL2Facts
import Derived.Test.YtpmgfdakljjlaaaGreatDoorSxM7
import Derived.Test.YtpmgfdakljjlaaaGreatDoorL2S
set_option linter.unusedVariables false
set_option linter.constructorNameAsVariable false
set_option linter.unusedSimpArgs false
open Go Go.Sx
namespace Go.Proofs.YtpmgfdakljjlaaaGreatDoor
set_option maxRecDepth 100000
noncomputable def cEmp_t : Tree := .letI (.pick (.v 3) (.v 2) (.c 0)) (.loop [.c (0)] [0] (.letI (.cmp .lss (.v 7) (.v 6)) (.ite (.v 8) (.need .neq (.v 3) (.c 0) (.need .lss (.v 7) (.v 2) (.letI (.mul (.v 7) (.c 2)) (.need .lss (.v 9) (.v 4) (.letI (.get 1 (.v 9)) (.letI (.add (.v 9) (.c 1)) (.need .lss (.v 11) (.v 4) (.letI (.get 1 (.v 11)) (.need .geq (.v 10) (.c 0) (.need .lss (.v 10) (.v 0) (.letI (.mul (.v 10) (.c 32)) (.need .geq (.v 12) (.c 0) (.need .lss (.v 12) (.c 8) (.letI (.mul (.v 12) (.c 4)) (.letI (.add (.v 13) (.v 14)) (.need .lss (.v 15) (.v 1) (.letL (.set 2 (.v 15) (.c 0)) (.letI (.add (.v 15) (.c 1)) (.need .lss (.v 16) (.v 1) (.letL (.set 3 (.v 16) (.c 0)) (.letI (.add (.v 15) (.c 2)) (.need .lss (.v 17) (.v 1) (.letL (.set 4 (.v 17) (.c 0)) (.letI (.add (.v 15) (.c 3)) (.need .lss (.v 18) (.v 1) (.letL (.set 5 (.v 18) (.c 0)) (.letI (.add (.v 7) (.c 1)) (.again [.v 19] [6])))))))))))))))))))))))))))) (.exit (.done [] [2])))))
theorem cEmp_tree : (L2.cEmp).exe Tryz.prog (L2.cfg Tryz.prog) [{ f := L2.f_caps_Tree_empties, reg := 2, ints := [(9, 0, 32)], lists := [(0, [0], some (-9223372036854775808, 9223372036854775807))] }] 20 200 = cEmp_t := by kernel_rfl
theorem cEmp_vc (Q : List Int → List (List Int) → Prop) (v0 v1 v2 v3 v4 v5 : Int) (L0 L1 : List Int) : cEmp_t.dn ⟨Q, []⟩ 6 [v5, v4, v3, v2, v1, v0] 2 [L1, L0] = (∀ v6 : Int, v6 = (if v3 = 0 then (0 : Int) else v2) → ∃ (I0 : List Int → List (List Int) → Prop) (μ0 : List Int → List (List Int) → Nat), I0 [(0 : Int)] [L0] ∧
(∀ v7 : Int, ∀ L2 : List Int, I0 [v7] [L2] →
 ((v7 < v6) → (v3 ≠ (0 : Int)) ∧ (v7 < v2) ∧ ∀ v9 : Int, v9 = v7 * (2 : Int) → (v9 < v4) ∧ ∀ v10 : Int, v10 = (L1).getD (v9).toNat 0 → ∀ v11 : Int, v11 = v9 + (1 : Int) → (v11 < v4) ∧ ∀ v12 : Int, v12 = (L1).getD (v11).toNat 0 → ((0 : Int) ≤ v10) ∧ (v10 < v0) ∧ ∀ v13 : Int, v13 = v10 * (32 : Int) → ((0 : Int) ≤ v12) ∧ (v12 < (8 : Int)) ∧ ∀ v14 : Int, v14 = v12 * (4 : Int) → ∀ v15 : Int, v15 = v13 + v14 → (v15 < v1) ∧ ∀ L3 : List Int, L3 = (L2).set (v15).toNat (0 : Int) → ∀ v16 : Int, v16 = v15 + (1 : Int) → (v16 < v1) ∧ ∀ L4 : List Int, L4 = (L3).set (v16).toNat (0 : Int) → ∀ v17 : Int, v17 = v15 + (2 : Int) → (v17 < v1) ∧ ∀ L5 : List Int, L5 = (L4).set (v17).toNat (0 : Int) → ∀ v18 : Int, v18 = v15 + (3 : Int) → (v18 < v1) ∧ ∀ L6 : List Int, L6 = (L5).set (v18).toNat (0 : Int) → ∀ v19 : Int, v19 = v7 + (1 : Int) → (I0 [v19] [L6] ∧ μ0 [v19] [L6] < μ0 [v7] [L2])) ∧
((v6 ≤ v7) → Q [] [L2]))) := by kernel_rfl
set_option maxHeartbeats 4000000 in
theorem cEmp_holds : (L2.cEmp).Holds Tryz.prog L2.ro := FSpec.holdsV (cfg := L2.cfg Tryz.prog) [{ f := L2.f_caps_Tree_empties, reg := 2, ints := [(9, 0, 32)], lists := [(0, [0], some (-9223372036854775808, 9223372036854775807))] }] 20 200 cfg_ok mixed (t := cEmp_t) cEmp_tree (by
  show ∀ (v0 v1 v2 v3 v4 v5 : Int) (L0 L1 : List Int), _
  intro v0 v1 v2 v3 v4 v5 L0 L1 hp hr hl
  replace hr : (((1) : Int) ≤ v0 ∧ v0 ≤ ((4) : Int)) ∧ (((32) : Int) ≤ v1 ∧ v1 ≤ ((128) : Int)) ∧ (((0) : Int) ≤ v2 ∧ v2 ≤ ((32) : Int)) ∧ (((0) : Int) ≤ v3 ∧ v3 ≤ ((9223372036854775807) : Int)) ∧ (((0) : Int) ≤ v4 ∧ v4 ≤ ((64) : Int)) ∧ (((0) : Int) ≤ v5 ∧ v5 ≤ ((18446744073709551614) : Int)) ∧ True := hr
  replace hl : (∀ x ∈ L0, (((-9223372036854775808) : Int) ≤ x ∧ x ≤ ((9223372036854775807) : Int))) ∧ (∀ x ∈ L1, (((-9223372036854775808) : Int) ≤ x ∧ x ≤ ((9223372036854775807) : Int))) ∧ True := hl
  show cEmp_t.dn ⟨_, []⟩ 6 [v5, v4, v3, v2, v1, v0] 2 [L1, L0]
  rw [cEmp_vc]
  have hp : v1 = v0 * 32 ∧ (L0.length : Int) = v1 ∧ v4 = v2 * 2 ∧ (L1.length : Int) = v4 ∧ v2 ≤ v3 ∧ PlsOk v0 L1 := hp
  obtain ⟨p1, p2, p3, p4, p5, hpl⟩ := hp
  clear hl
  intro v6 e6
  have h6 : v6 = v2 := by rw [e6]; split <;> omega
  refine ⟨fun xs ys => match xs, ys with | [i], [T] => 0 ≤ i ∧ i ≤ v2 ∧ T = emptyK L0 L1 i.toNat | _, _ => False, fun xs _ => match xs with | i :: _ => (v2 - i).toNat | _ => 0, ?_, ?_⟩ <;> dsimp only
  · exact ⟨by omega, by omega, rfl⟩
  · intro i T hI
    obtain ⟨i0, i4, hT⟩ := hI
    obtain ⟨k, rfl⟩ : ∃ m : Nat, i = m := ⟨i.toNat, by omega⟩
    rw [Int.toNat_natCast] at hT
    have hTl : T.length = L0.length := by rw [hT, emptyK_len]
    refine ⟨fun c1 => ?_, fun c1 => ?_⟩
    · have ok := hpl.ok k (by omega)
      refine ⟨by omega, by omega, ?_⟩
      intro a ea
      refine ⟨by omega, ?_⟩
      intro x ex b eb
      refine ⟨by omega, ?_⟩
      intro y ey
      have hx : x = L1.getD (2 * k) 0 := by rw [ex, ea]; congr 1; omega
      have hy : y = L1.getD (2 * k + 1) 0 := by rw [ey, eb, ea]; congr 1; omega
      rw [← hx, ← hy] at ok
      refine ⟨by omega, by omega, ?_⟩
      intro c ec
      refine ⟨by omega, by omega, ?_⟩
      intro d ed o eo
      refine ⟨by omega, ?_⟩
      intro T1 f1 o1 g1
      refine ⟨by omega, ?_⟩
      intro T2 f2 o2 g2
      refine ⟨by omega, ?_⟩
      intro T3 f3 o3 g3
      refine ⟨by omega, ?_⟩
      intro T4 f4 j ej
      refine ⟨⟨by omega, by omega, ?_⟩, by omega⟩
      rw [ej, show ((k : Int) + 1).toNat = k + 1 by omega, emptyK, ← hT, ← hx, ← hy]
      unfold cSet
      rw [f4, f3, f2, f1, g1, g2, g3, eo, ec, ed]
    · show [T] = [emptyC L0 L1]
      unfold emptyC
      rw [hT, show L1.length / 2 = k by omega])
end Go.Proofs.YtpmgfdakljjlaaaGreatDoor
