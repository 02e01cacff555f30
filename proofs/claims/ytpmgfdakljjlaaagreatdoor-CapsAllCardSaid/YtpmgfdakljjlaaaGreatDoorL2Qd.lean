/- Contract: the document's capabilities go. -/
import Derived.Test.YtpmgfdakljjlaaaGreatDoorL2Facts
import Derived.Test.YtpmgfdakljjlaaaGreatDoorSxM7
import Derived.Test.YtpmgfdakljjlaaaGreatDoorL2S
import Derived.Test.YtpmgfdakljjlaaaGreatDoorPuZ
set_option linter.unusedVariables false
set_option linter.constructorNameAsVariable false
set_option linter.unusedSimpArgs false
open Go Go.Sx
namespace Go.Proofs.YtpmgfdakljjlaaaGreatDoor
set_option maxRecDepth 100000
noncomputable def rGone_t : Tree := .loop [.c (0)] [0] (.letI (.pick (.v 1) (.v 0) (.c 0)) (.letI (.cmp .lss (.v 4) (.v 5)) (.ite (.v 6) (.need .neq (.v 1) (.c 0) (.need .lss (.v 4) (.v 0) (.letI (.mul (.v 4) (.c 2)) (.need .lss (.v 7) (.v 2) (.letI (.get 1 (.v 7)) (.need .lss (.v 4) (.v 0) (.letI (.add (.v 7) (.c 1)) (.need .lss (.v 9) (.v 2) (.letI (.get 1 (.v 9)) (.need .lss (.v 8) (.c 4) (.letI (.mul (.v 8) (.c 40)) (.letI (.add (.c 3) (.v 11)) (.letI (.mul (.v 10) (.c 5)) (.letI (.add (.v 12) (.v 13)) (.letL (.set 2 (.v 14) (.c 0)) (.letI (.add (.v 14) (.c 1)) (.letL (.set 3 (.v 15) (.c 0)) (.letI (.add (.v 14) (.c 2)) (.letL (.set 4 (.v 16) (.c 0)) (.letI (.add (.v 14) (.c 3)) (.letL (.set 5 (.v 17) (.c 0)) (.letI (.add (.v 14) (.c 4)) (.letL (.set 6 (.v 18) (.c 0)) (.loop [.c (0)] [7] (.letI (.cmp .lss (.v 19) (.c 8)) (.ite (.v 20) (.need .lss (.v 4) (.v 0) (.need .lss (.v 7) (.v 2) (.letI (.mul (.v 8) (.c 24)) (.letI (.add (.c 163) (.v 21)) (.letI (.mul (.v 19) (.c 3)) (.letI (.add (.v 22) (.v 23)) (.letI (.get 8 (.v 24)) (.letI (.add (.v 24) (.c 1)) (.letI (.get 8 (.v 26)) (.letI (.add (.v 24) (.c 2)) (.letI (.get 8 (.v 28)) (.letI (.cmp .neq (.v 29) (.c 0)) (.ite (.v 30) (.need .lss (.v 4) (.v 0) (.need .lss (.v 9) (.v 2) (.letI (.cmp .eql (.v 10) (.v 27)) (.ite (.v 31) (.need .lss (.v 4) (.v 0) (.need .lss (.v 7) (.v 2) (.letL (.set 8 (.v 24) (.c 0)) (.letL (.set 9 (.v 26) (.c 0)) (.letL (.set 10 (.v 28) (.c 0)) (.letI (.add (.v 19) (.c 1)) (.again [.v 32] [11]))))))) (.letI (.add (.v 19) (.c 1)) (.again [.v 32] [8])))))) (.both (.letI (.add (.v 19) (.c 1)) (.again [.v 31] [8])) (.letI (.add (.v 19) (.c 1)) (.again [.v 31] [8])))))))))))))))) (.exit (.letI (.add (.v 4) (.c 1)) (.again [.v 21] [8]))))))))))))))))))))))))))))) (.exit (.done [] [2])))))
theorem rGone_tree : (L2.rGone).exe Tryz.prog (L2.cfg Tryz.prog) [{ f := L2.f_messuageref13_Kernel_Gone, reg := 1, ints := [(4, 0, 32)], lists := [(0, [], some (-9223372036854775808, 18446744073709551615))] }, { f := L2.f_messuageref13_Kernel_Gone, reg := 5, ints := [(29, 0, 8)], lists := [(0, [], some (-9223372036854775808, 18446744073709551615))] }] 20 200 = rGone_t := by kernel_rfl
theorem rGone_vc (Q : List Int → List (List Int) → Prop) (v0 v1 v2 v3 : Int) (L0 L1 : List Int) : rGone_t.dn ⟨Q, []⟩ 4 [v3, v2, v1, v0] 2 [L1, L0] = (∃ (I0 : List Int → List (List Int) → Prop) (μ0 : List Int → List (List Int) → Nat), I0 [(0 : Int)] [L0] ∧
(∀ v4 : Int, ∀ L2 : List Int, I0 [v4] [L2] →
 ∀ v5 : Int, v5 = (if v1 = 0 then (0 : Int) else v0) → ((v4 < v5) → (v1 ≠ (0 : Int)) ∧ (v4 < v0) ∧ ∀ v7 : Int, v7 = v4 * (2 : Int) → (v7 < v2) ∧ ∀ v8 : Int, v8 = (L1).getD (v7).toNat 0 → (v4 < v0) ∧ ∀ v9 : Int, v9 = v7 + (1 : Int) → (v9 < v2) ∧ ∀ v10 : Int, v10 = (L1).getD (v9).toNat 0 → (v8 < (4 : Int)) ∧ ∀ v11 : Int, v11 = v8 * (40 : Int) → ∀ v12 : Int, v12 = (3 : Int) + v11 → ∀ v13 : Int, v13 = v10 * (5 : Int) → ∀ v14 : Int, v14 = v12 + v13 → ∀ L3 : List Int, L3 = (L2).set (v14).toNat (0 : Int) → ∀ v15 : Int, v15 = v14 + (1 : Int) → ∀ L4 : List Int, L4 = (L3).set (v15).toNat (0 : Int) → ∀ v16 : Int, v16 = v14 + (2 : Int) → ∀ L5 : List Int, L5 = (L4).set (v16).toNat (0 : Int) → ∀ v17 : Int, v17 = v14 + (3 : Int) → ∀ L6 : List Int, L6 = (L5).set (v17).toNat (0 : Int) → ∀ v18 : Int, v18 = v14 + (4 : Int) → ∀ L7 : List Int, L7 = (L6).set (v18).toNat (0 : Int) → ∃ (I1 : List Int → List (List Int) → Prop) (μ1 : List Int → List (List Int) → Nat), I1 [(0 : Int)] [L7] ∧
(∀ v19 : Int, ∀ L8 : List Int, I1 [v19] [L8] →
 ((v19 < (8 : Int)) → (v4 < v0) ∧ (v7 < v2) ∧ ∀ v21 : Int, v21 = v8 * (24 : Int) → ∀ v22 : Int, v22 = (163 : Int) + v21 → ∀ v23 : Int, v23 = v19 * (3 : Int) → ∀ v24 : Int, v24 = v22 + v23 → ∀ v25 : Int, v25 = (L8).getD (v24).toNat 0 → ∀ v26 : Int, v26 = v24 + (1 : Int) → ∀ v27 : Int, v27 = (L8).getD (v26).toNat 0 → ∀ v28 : Int, v28 = v24 + (2 : Int) → ∀ v29 : Int, v29 = (L8).getD (v28).toNat 0 → ((v29 ≠ (0 : Int)) → (v4 < v0) ∧ (v9 < v2) ∧ ((v10 = v27) → (v4 < v0) ∧ (v7 < v2) ∧ ∀ L9 : List Int, L9 = (L8).set (v24).toNat (0 : Int) → ∀ L10 : List Int, L10 = (L9).set (v26).toNat (0 : Int) → ∀ L11 : List Int, L11 = (L10).set (v28).toNat (0 : Int) → ∀ v32 : Int, v32 = v19 + (1 : Int) → (I1 [v32] [L11] ∧ μ1 [v32] [L11] < μ1 [v19] [L8])) ∧
((v10 ≠ v27) → ∀ v32 : Int, v32 = v19 + (1 : Int) → (I1 [v32] [L8] ∧ μ1 [v32] [L8] < μ1 [v19] [L8]))) ∧
((v29 = (0 : Int)) → (∀ v31 : Int, v31 = v19 + (1 : Int) → (I1 [v31] [L8] ∧ μ1 [v31] [L8] < μ1 [v19] [L8])) ∧
(∀ v31 : Int, v31 = v19 + (1 : Int) → (I1 [v31] [L8] ∧ μ1 [v31] [L8] < μ1 [v19] [L8])))) ∧
(((8 : Int) ≤ v19) → ∀ v21 : Int, v21 = v4 + (1 : Int) → (I0 [v21] [L8] ∧ μ0 [v21] [L8] < μ0 [v4] [L2])))) ∧
((v5 ≤ v4) → Q [] [L2]))) := by kernel_rfl
set_option maxHeartbeats 4000000 in
theorem rGone_holds : (L2.rGone).Holds Tryz.prog L2.ro := FSpec.holdsV (cfg := L2.cfg Tryz.prog) [{ f := L2.f_messuageref13_Kernel_Gone, reg := 1, ints := [(4, 0, 32)], lists := [(0, [], some (-9223372036854775808, 18446744073709551615))] }, { f := L2.f_messuageref13_Kernel_Gone, reg := 5, ints := [(29, 0, 8)], lists := [(0, [], some (-9223372036854775808, 18446744073709551615))] }] 20 200 cfg_ok mixed (t := rGone_t) rGone_tree (by
  show ∀ (v0 v1 v2 v3 : Int) (L0 L1 : List Int), _
  intro v0 v1 v2 v3 L0 L1 hp hr hl
  replace hr : (((0) : Int) ≤ v0 ∧ v0 ≤ ((32) : Int)) ∧ (((0) : Int) ≤ v1 ∧ v1 ≤ ((9223372036854775807) : Int)) ∧ (((0) : Int) ≤ v2 ∧ v2 ≤ ((64) : Int)) ∧ (((0) : Int) ≤ v3 ∧ v3 ≤ ((18446744073709551614) : Int)) ∧ True := hr
  replace hl : (∀ x ∈ L0, (((-9223372036854775808) : Int) ≤ x ∧ x ≤ ((18446744073709551615) : Int))) ∧ (∀ x ∈ L1, (((0) : Int) ≤ x ∧ x ≤ ((7) : Int))) ∧ True := hl
  show rGone_t.dn ⟨_, []⟩ 4 [v3, v2, v1, v0] 2 [L1, L0]
  rw [rGone_vc]
  obtain ⟨⟨n0, T0, hn0, hc0, hk0, hp0⟩, hle, h2, hlen⟩ := hp
  have hk0 : KT T0 L0 := hk0
  have hp0 : PlsOk n0 L1 := hp0
  have hle : v0 ≤ v1 := hle
  have h2 : v2 = v0 * 2 := h2
  have hlen : (L1.length : Int) = v2 := hlen
  clear hl
  refine ⟨fun xs ys => match xs, ys with | [i], [W] => ∃ k : Nat, i = k ∧ k ≤ v0 ∧ ∀ n T, n ≤ 4 → CV n T → KT T L0 → PlsOk n L1 → KT (emptyK T L1 k) W | _, _ => False, fun xs _ => match xs with | i :: _ => (v0 - i).toNat | _ => 0, ?_, ?_⟩ <;> dsimp only
  · exact ⟨0, rfl, by omega, fun n T _ _ h _ => h⟩
  · intro i W hI
    obtain ⟨k, rfl, kv, hW⟩ := hI
    intro x5 e5
    have hx5 : x5 = v0 := by rw [e5]; split <;> omega
    clear e5
    refine ⟨fun c => ?_, fun c => ?_⟩
    · have hpl := hp0.ok k (by omega)
      refine ⟨by omega, by omega, fun x7 e7 => ⟨by omega, fun a ea => ⟨by omega, fun x9 e9 => ⟨by omega, fun b eb => ?_⟩⟩⟩⟩
      have ha : a = L1.getD (2 * k) 0 := by rw [ea, e7]; congr 1; omega
      have hb : b = L1.getD (2 * k + 1) 0 := by rw [eb, e9, e7]; congr 1; omega
      rw [← ha, ← hb] at hpl
      obtain ⟨a0, an, b0, b8⟩ := hpl
      clear ea eb
      refine ⟨by omega, fun x11 e11 x12 e12 x13 e13 x14 e14 W3 w3 x15 e15 W4 w4 x16 e16 W5 w5 x17 e17 W6 w6 x18 e18 W7 w7 => ?_⟩
      have hi14 : x14 = 3 + a * 40 + b * 5 := by omega
      have hW7 : W7 = set5 W x14 0 0 0 0 0 := by
        unfold set5
        rw [w7, w6, w5, w4, w3, e15, e16, e17, e18]
      have hN : ∀ n T, n ≤ 4 → CV n T → KT T L0 → PlsOk n L1 → KT (emptyK T L1 (k + 1)) W7 := fun n T h4 h1 h3 h5 => by
        have hkT := hW n T h4 h1 h3 h5
        have hpl := h5.ok k (by omega)
        rw [← ha, ← hb] at hpl
        rw [emptyK, ← ha, ← hb, hW7]
        exact hkT.set (n := n) (by rw [emptyK_len]; exact h1.len) h4 hpl.1 hpl.2.1 hpl.2.2.1 hpl.2.2.2 hi14 (by simp [b2i]) (by omega)
      clear w3 w4 w5 w6 w7 hW
      refine ⟨fun xs ys => match xs, ys with | [p], [V] => 0 ≤ p ∧ V = W7 | _, _ => False, fun xs _ => match xs with | p :: _ => (8 - p).toNat | _ => 0, ?_, ?_⟩ <;> dsimp only
      · exact ⟨by omega, rfl⟩
      · intro p V hI
        obtain ⟨p0, rfl⟩ := hI
        refine ⟨fun d => ⟨by omega, by omega, fun x21 e21 x22 e22 x23 e23 x24 e24 w0 f0 x26 e26 w1 f1 x28 e28 w2 f2 => ?_⟩, fun d j ej => ⟨⟨k + 1, by omega, by omega, hN⟩, by omega⟩⟩
        have hz : w2 = 0 := by
          rw [f2, show x28.toNat = (163 + a * 24 + p * 3 + 2).toNat by omega]
          exact (hN n0 T0 hn0 hc0 hk0 hp0).ptes _ (by omega) (by omega)
        exact ⟨fun z => absurd hz z, fun _ => ⟨fun j ej => ⟨⟨by omega, rfl⟩, by omega⟩, fun j ej => ⟨⟨by omega, rfl⟩, by omega⟩⟩⟩
    · have : k = L1.length / 2 := by omega
      intro n T h4 h1 h3 h5
      have := hW n T h4 h1 h3 h5
      show KT (emptyC T L1) W
      unfold emptyC
      rw [← ‹k = L1.length / 2›]
      exact this)
end Go.Proofs.YtpmgfdakljjlaaaGreatDoor
