/- The statement messuagelaw11.EpochMany of the seat: for every input the law returns true; the condition: errors.errorType is as the program lays it. -/
import Derived.Test.YtegeplgckfpleaaGreatDoorL2B
import Derived.Test.YtegeplgckfpleaaGreatDoorSxM7
import Derived.Test.YtegeplgckfpleaaGreatDoorL2Eb
set_option linter.unusedVariables false
set_option linter.unusedSimpArgs false
open Go Go.Sx
namespace Go.Proofs.YtegeplgckfpleaaGreatDoor
open Go.ChangeShapes Go.WideShapes Go.RowKit
set_option maxRecDepth 100000

noncomputable def EpochMany_t : Tree := .call 15 (Go.Sx.L2.yes Go.Sx.L2.f_messuagelaw11_begun).rel [] [] 0 0 (.letI (.rem (.v 0) (.c 8)) (.letI (.add (.v 3) (.c 8)) (.letI (.rem (.v 4) (.c 8)) (.letI (.add (.c 1) (.v 5)) (.letL (.rep (.v 6) (.c 0)) (.letL (.lit []) (.loop [.c (0), .c (0), .c (0)] [1, 2] (.letI (.cmp .lss (.v 7) (.v 1)) (.ite (.v 10) (.letI (.cmp .lss (.v 7) (.c 20)) (.ite (.v 11) (.need .lss (.v 7) (.v 1) (.need .lss (.v 7) (.v 1) (.letI (.get 0 (.v 7)) (.letI (.rem (.v 12) (.v 6)) (.letI (.add (.v 13) (.v 6)) (.letI (.wr .i64 (.v 14)) (.letI (.rem (.v 15) (.v 6)) (.need .leq (.v 8) (.c 1000) (.need .geq (.v 16) (.c (-9223372036854775808)) (.need .leq (.v 16) (.c 9223372036854775807) (.call 31 (Go.Sx.L2.eBegin).rel [.v 8, .v 9, .v 6, .v 16] [4, 3] 4 1 (.letI (.not (.v 18)) (.ite (.v 21) (.exit (.fail 180)) (.letI (.add (.v 7) (.c 1)) (.letI (.cmp .neq (.v 17) (.v 22)) (.ite (.v 23) (.exit (.fail 180)) (.need .leq (.v 19) (.c 1000) (.call 33 (Go.Sx.L2.eWaits).rel [.v 19, .v 20, .v 6, .v 17] [5, 3] 2 1 (.letI (.sub (.v 6) (.c 1)) (.letI (.cmp .neq (.v 24) (.v 26)) (.ite (.v 27) (.exit (.fail 180)) (.call 34 (Go.Sx.L2.eDone).rel [.v 19, .v 20, .v 6, .v 17] [5, 3] 1 0 (.letI (.cmp .eql (.v 6) (.c 1)) (.letI (.not (.v 28)) (.letI (.not (.v 29)) (.letI (.cmp .neq (.v 30) (.v 31)) (.ite (.v 32) (.exit (.fail 180)) (.call 33 (Go.Sx.L2.eWaits).rel [.v 19, .v 20, .v 6, .v 17] [5, 3] 2 1 (.letI (.cmp .lss (.c 0) (.v 33)) (.ite (.v 35) (.letI (.get 7 (.c 0)) (.letI (.cmp .eql (.v 16) (.v 36)) (.ite (.v 37) (.exit (.fail 180)) (.letI (.cmp .lss (.c 1) (.v 33)) (.ite (.v 38) (.letI (.get 7 (.c 1)) (.letI (.cmp .eql (.v 16) (.v 39)) (.ite (.v 40) (.exit (.fail 180)) (.letI (.cmp .lss (.c 2) (.v 33)) (.ite (.v 41) (.letI (.get 7 (.c 2)) (.letI (.cmp .eql (.v 16) (.v 42)) (.ite (.v 43) (.exit (.fail 180)) (.letI (.cmp .lss (.c 3) (.v 33)) (.ite (.v 44) (.letI (.get 7 (.c 3)) (.letI (.cmp .eql (.v 16) (.v 45)) (.ite (.v 46) (.exit (.fail 180)) (.letI (.cmp .lss (.c 4) (.v 33)) (.ite (.v 47) (.letI (.get 7 (.c 4)) (.letI (.cmp .eql (.v 16) (.v 48)) (.ite (.v 49) (.exit (.fail 180)) (.letI (.cmp .lss (.c 5) (.v 33)) (.ite (.v 50) (.letI (.get 7 (.c 5)) (.letI (.cmp .eql (.v 16) (.v 51)) (.ite (.v 52) (.exit (.fail 180)) (.letI (.cmp .lss (.c 6) (.v 33)) (.ite (.v 53) (.letI (.get 7 (.c 6)) (.letI (.cmp .eql (.v 16) (.v 54)) (.ite (.v 55) (.exit (.fail 180)) (.letI (.cmp .lss (.c 7) (.v 33)) (.ite (.v 56) (.letI (.get 7 (.c 7)) (.letI (.cmp .eql (.v 16) (.v 57)) (.ite (.v 58) (.exit (.fail 180)) (.again [.v 22, .v 19, .v 20] [3, 5])))) (.again [.v 22, .v 19, .v 20] [3, 5])))))) (.again [.v 22, .v 19, .v 20] [3, 5])))))) (.again [.v 22, .v 19, .v 20] [3, 5])))))) (.again [.v 22, .v 19, .v 20] [3, 5])))))) (.again [.v 22, .v 19, .v 20] [3, 5])))))) (.again [.v 22, .v 19, .v 20] [3, 5])))))) (.again [.v 22, .v 19, .v 20] [3, 5])))))) (.again [.v 22, .v 19, .v 20] [3, 5]))))))))))))))))))))))))))))))) (.exit (.done [] [])))) (.exit (.done [] [])))))))))))
theorem EpochMany_tree : (lawSpec L2.f_messuagelaw11_EpochMany [.one (.i .i64), .slc [.i .i64]]).exe Tryz.prog (withS (L2.cfgB Tryz.prog) [L2.eBegin, L2.eAck, L2.eWaits, L2.eDone]) [{ f := L2.f_messuagelaw11_EpochMany, reg := 7, ints := [(7, 0, 20)], lists := [(6, [1], some (0, 18446744073709551615))], cvecs := [(6, [], 0, some (-9223372036854775808, 9223372036854775807))], cnils := [(6, [], 0, [.i .i64], L2.t_int)] }] 20 200 = EpochMany_t := by kernel_rfl
theorem EpochMany_vc (Q : List Int → List (List Int) → Prop) (v0 v1 v2 : Int) (L0 : List Int) : EpochMany_t.dn ⟨Q, []⟩ 3 [v2, v1, v0] 1 [L0] = ((Go.Sx.L2.yes Go.Sx.L2.f_messuagelaw11_begun).rel.pre [] [] ∧
((Go.Sx.L2.yes Go.Sx.L2.f_messuagelaw11_begun).rel.post [] [] [] [] → ∀ v3 : Int, v3 = (v0).tmod (8 : Int) → ∀ v4 : Int, v4 = v3 + (8 : Int) → ∀ v5 : Int, v5 = (v4).tmod (8 : Int) → ∀ v6 : Int, v6 = (1 : Int) + v5 → ∀ L1 : List Int, L1 = List.replicate (v6).toNat (0 : Int) → ∀ L2 : List Int, L2 = [] → ∃ (I0 : List Int → List (List Int) → Prop) (μ0 : List Int → List (List Int) → Nat), I0 [(0 : Int), (0 : Int), (0 : Int)] [L1, L2] ∧
(∀ v7 : Int, ∀ v8 : Int, ∀ v9 : Int, ∀ L3 : List Int, ∀ L4 : List Int, I0 [v7, v8, v9] [L3, L4] →
 ((v7 < v1) → ((v7 < (20 : Int)) → (v7 < v1) ∧ (v7 < v1) ∧ ∀ v12 : Int, v12 = (L0).getD (v7).toNat 0 → ∀ v13 : Int, v13 = (v12).tmod v6 → ∀ v14 : Int, v14 = v13 + v6 → ∀ v15 : Int, v15 = IntKind.wrap .i64 v14 → ∀ v16 : Int, v16 = (v15).tmod v6 → (v8 ≤ (1000 : Int)) ∧ (((-9223372036854775808) : Int) ≤ v16) ∧ (v16 ≤ (9223372036854775807 : Int)) ∧ (Go.Sx.L2.eBegin).rel.pre [v8, v9, v6, v16] [L4, L3] ∧
(∀ v17 : Int, ∀ v18 : Int, ∀ v19 : Int, ∀ v20 : Int, ∀ L5 : List Int, (Go.Sx.L2.eBegin).rel.post [v8, v9, v6, v16] [L4, L3] [v17, v18, v19, v20] [L5] → ∀ v21 : Int, v21 = b2i (v18 == 0) → (v21 ≠ 0 → False) ∧
(v21 = 0 → ∀ v22 : Int, v22 = v7 + (1 : Int) → ((v17 ≠ v22) → False) ∧
((v17 = v22) → (v19 ≤ (1000 : Int)) ∧ (Go.Sx.L2.eWaits).rel.pre [v19, v20, v6, v17] [L5, L3] ∧
(∀ v24 : Int, ∀ v25 : Int, ∀ L6 : List Int, (Go.Sx.L2.eWaits).rel.post [v19, v20, v6, v17] [L5, L3] [v24, v25] [L6] → ∀ v26 : Int, v26 = v6 - (1 : Int) → ((v24 ≠ v26) → False) ∧
((v24 = v26) → (Go.Sx.L2.eDone).rel.pre [v19, v20, v6, v17] [L5, L3] ∧
(∀ v28 : Int, (Go.Sx.L2.eDone).rel.post [v19, v20, v6, v17] [L5, L3] [v28] [] → ∀ v29 : Int, v29 = b2i (v6 == (1 : Int)) → ∀ v30 : Int, v30 = b2i (v28 == 0) → ∀ v31 : Int, v31 = b2i (v29 == 0) → ((v30 ≠ v31) → False) ∧
((v30 = v31) → (Go.Sx.L2.eWaits).rel.pre [v19, v20, v6, v17] [L5, L3] ∧
(∀ v33 : Int, ∀ v34 : Int, ∀ L7 : List Int, (Go.Sx.L2.eWaits).rel.post [v19, v20, v6, v17] [L5, L3] [v33, v34] [L7] → (((0 : Int) < v33) → ∀ v36 : Int, v36 = (L7).getD ((0 : Int)).toNat 0 → ((v16 = v36) → False) ∧
((v16 ≠ v36) → (((1 : Int) < v33) → ∀ v39 : Int, v39 = (L7).getD ((1 : Int)).toNat 0 → ((v16 = v39) → False) ∧
((v16 ≠ v39) → (((2 : Int) < v33) → ∀ v42 : Int, v42 = (L7).getD ((2 : Int)).toNat 0 → ((v16 = v42) → False) ∧
((v16 ≠ v42) → (((3 : Int) < v33) → ∀ v45 : Int, v45 = (L7).getD ((3 : Int)).toNat 0 → ((v16 = v45) → False) ∧
((v16 ≠ v45) → (((4 : Int) < v33) → ∀ v48 : Int, v48 = (L7).getD ((4 : Int)).toNat 0 → ((v16 = v48) → False) ∧
((v16 ≠ v48) → (((5 : Int) < v33) → ∀ v51 : Int, v51 = (L7).getD ((5 : Int)).toNat 0 → ((v16 = v51) → False) ∧
((v16 ≠ v51) → (((6 : Int) < v33) → ∀ v54 : Int, v54 = (L7).getD ((6 : Int)).toNat 0 → ((v16 = v54) → False) ∧
((v16 ≠ v54) → (((7 : Int) < v33) → ∀ v57 : Int, v57 = (L7).getD ((7 : Int)).toNat 0 → ((v16 = v57) → False) ∧
((v16 ≠ v57) → (I0 [v22, v19, v20] [L3, L5] ∧ μ0 [v22, v19, v20] [L3, L5] < μ0 [v7, v8, v9] [L3, L4]))) ∧
((v33 ≤ (7 : Int)) → (I0 [v22, v19, v20] [L3, L5] ∧ μ0 [v22, v19, v20] [L3, L5] < μ0 [v7, v8, v9] [L3, L4])))) ∧
((v33 ≤ (6 : Int)) → (I0 [v22, v19, v20] [L3, L5] ∧ μ0 [v22, v19, v20] [L3, L5] < μ0 [v7, v8, v9] [L3, L4])))) ∧
((v33 ≤ (5 : Int)) → (I0 [v22, v19, v20] [L3, L5] ∧ μ0 [v22, v19, v20] [L3, L5] < μ0 [v7, v8, v9] [L3, L4])))) ∧
((v33 ≤ (4 : Int)) → (I0 [v22, v19, v20] [L3, L5] ∧ μ0 [v22, v19, v20] [L3, L5] < μ0 [v7, v8, v9] [L3, L4])))) ∧
((v33 ≤ (3 : Int)) → (I0 [v22, v19, v20] [L3, L5] ∧ μ0 [v22, v19, v20] [L3, L5] < μ0 [v7, v8, v9] [L3, L4])))) ∧
((v33 ≤ (2 : Int)) → (I0 [v22, v19, v20] [L3, L5] ∧ μ0 [v22, v19, v20] [L3, L5] < μ0 [v7, v8, v9] [L3, L4])))) ∧
((v33 ≤ (1 : Int)) → (I0 [v22, v19, v20] [L3, L5] ∧ μ0 [v22, v19, v20] [L3, L5] < μ0 [v7, v8, v9] [L3, L4])))) ∧
((v33 ≤ (0 : Int)) → (I0 [v22, v19, v20] [L3, L5] ∧ μ0 [v22, v19, v20] [L3, L5] < μ0 [v7, v8, v9] [L3, L4]))))))))))) ∧
(((20 : Int) ≤ v7) → Q [] [])) ∧
((v1 ≤ v7) → Q [] [])))) := by kernel_rfl
set_option maxHeartbeats 4000000 in
theorem epochMany_holds0 : (lawSpec L2.f_messuagelaw11_EpochMany [.one (.i .i64), .slc [.i .i64]]).Holds Tryz.prog L2.ro := FSpec.holdsV (cfg := withS (L2.cfgB Tryz.prog) [L2.eBegin, L2.eAck, L2.eWaits, L2.eDone]) [{ f := L2.f_messuagelaw11_EpochMany, reg := 7, ints := [(7, 0, 20)], lists := [(6, [1], some (0, 18446744073709551615))], cvecs := [(6, [], 0, some (-9223372036854775808, 9223372036854775807))], cnils := [(6, [], 0, [.i .i64], L2.t_int)] }] 20 200 (withS_ok cfgB_ok ⟨eBegin_holds, eAck_holds, eWaits_holds, eDone_holds, trivial⟩) mixed (t := EpochMany_t) EpochMany_tree (by
  show ∀ (v0 v1 v2 : Int) (L0 : List Int), _
  intro v0 v1 v2 L0 hp hr hl
  replace hr : ((-9223372036854775808 : Int) ≤ v0 ∧ v0 ≤ (9223372036854775807 : Int)) ∧ ((0 : Int) ≤ v1 ∧ v1 ≤ (9223372036854775807 : Int)) ∧ ((0 : Int) ≤ v2 ∧ v2 ≤ (9223372036854775807 : Int)) ∧ True := hr
  replace hp : (True ∧ ((0 : Int) ≤ v1 ∧ v1 ≤ v2 ∧ (L0.length : Int) = v1 * ((1 : Nat) : Int) ∧ ((1 : Nat) ≠ 1 → [v0, v1, v2].getD 3 0 = v1 * ((1 : Nat) : Int)) ∧ ∀ j, j < L0.length → ((oneKind [.i .i64]).getD (j % (oneKind [.i .i64]).length) (.i .i64)).lo ≤ L0.getD j 0 ∧ L0.getD j 0 ≤ ((oneKind [.i .i64]).getD (j % (oneKind [.i .i64]).length) (.i .i64)).hi)) := hp
  show EpochMany_t.dn ⟨_, []⟩ 3 [v2, v1, v0] 1 [L0]
  rw [EpochMany_vc]
  show ((L2.yes L2.f_messuagelaw11_begun).rel.pre [] [] ∧ _)
  refine ⟨trivial, fun _ => ?_⟩
  intro v3 e3 v4 e4 v5 e5 v6 e6 L1 eL1 L2 eL2
  have r3 := tmodR (x := v0) (m := 8) (by omega)
  have r5 := tmodP (x := v4) (m := 8) (by omega) (by omega)
  have n1 : 1 ≤ v6 ∧ v6 ≤ 8 := by omega
  clear r3 r5 e3 e4 e5 e6 hp hl
  obtain ⟨m, rfl⟩ : ∃ m : Nat, v6 = m := ⟨v6.toNat, by omega⟩
  rw [Int.toNat_natCast] at eL1
  refine ⟨fun xs ys => match xs, ys with | [i, a, b], [H, O] => 0 ≤ i ∧ i ≤ 20 ∧ H = List.replicate m 0 ∧ (O.length : Int) = i ∧ a = i ∧ a ≤ b | _, _ => False, fun xs _ => match xs with | i :: _ => (20 - i).toNat | _ => 0, ?_, ?_⟩ <;> dsimp only
  · subst eL1 eL2; exact ⟨by omega, by omega, rfl, rfl, rfl, by omega⟩
  · intro i a b H O hI
    obtain ⟨i0, i9, hH, hO, ha, hb⟩ := hI
    have hHl : H.length = m := by rw [hH]; simp
    refine ⟨fun q1 => ⟨fun q2 => ⟨q1, q1, ?_⟩, fun _ => trivial⟩, fun _ => trivial⟩
    intro v12 e12 v13 e13 v14 e14 v15 e15 c ec
    have r13 := tmodR (x := v12) (m := (m : Int)) (by omega)
    have w15 := wrapI v14
    have r16 := tmodP (x := v15) (m := (m : Int)) (by omega) (by omega)
    rw [← ec] at r16
    clear r13 w15 e12 e13 e14 e15 ec
    refine ⟨by omega, by omega, by omega, ⟨by show (O.length : Int) = a; omega, hb, by show (H.length : Int) = m; omega⟩, ?_⟩
    intro e ok a' b' O' hpost
    have hpost : e = (if coreOk H c then a + 1 else 0) ∧ ok = b2i (coreOk H c) ∧ a' = ((begE O H c).length : Int) ∧ a' ≤ b' ∧ [O'] = [begE O H c] := hpost
    have hb0 := beg_ok (O := O) (H := H) (c := c) (by omega) (by omega)
    rw [hb0.1, hb0.2] at hpost
    obtain ⟨he, hok, ha', hb', hO'⟩ := hpost
    have hO' : O' = O ++ [c] := by simpa using hO'
    rw [if_pos rfl] at he
    rw [List.length_append, List.length_singleton] at ha'
    have hl' : (O'.length : Int) = i + 1 := by rw [hO', List.length_append, List.length_singleton]; push_cast; omega
    have hat : O'.getD (e - 1).toNat 0 = c := by
      rw [hO', show (e - 1).toNat = O.length by omega]
      simp [List.getD]
    have hw := waitsMany (m := m) (n := e) hat (by omega) (by omega) r16.1 r16.2
    rw [← hH] at hw
    have hpre : (O'.length : Int) = a' ∧ a' ≤ b' ∧ (H.length : Int) = m := ⟨by omega, hb', by omega⟩
    intro z ez
    have hz : z = 0 := by rw [ez, hok]; rfl
    refine ⟨fun c => c hz, fun _ => ?_⟩
    intro j ej
    refine ⟨fun c => by omega, fun _ => ⟨by omega, hpre, ?_⟩⟩
    intro n r W hW
    have hW : n = ((waitsE O' H e).length : Int) ∧ n ≤ r ∧ [W] = [waitsE O' H e] := hW
    intro u eu
    refine ⟨fun c => by omega, fun _ => ⟨hpre, ?_⟩⟩
    intro d hd
    have hd : [d] = [b2i (epOk O' e && decide (waitsE O' H e = []))] ∧ ([] : List (List Int)) = [] := hd
    have hd1 : d = if (m : Int) = 1 then 1 else 0 := by
      have h1 := hd.1
      rw [epOk_ok (by omega) (by omega)] at h1
      have h1 : d = b2i (decide (waitsE O' H e = [])) := by simpa using h1
      rw [h1]
      by_cases hm : (m : Int) = 1
      · have : waitsE O' H e = [] := List.length_eq_zero_iff.1 (by omega)
        rw [if_pos hm, this]; rfl
      · have : waitsE O' H e ≠ [] := fun q => by rw [q] at hw; simp at hw; omega
        rw [if_neg hm, decide_eq_false this]; rfl
    intro x ex y ey w ew
    have hyw : y = w := by
      rw [ey, ew, ex, hd1]
      by_cases hm : (m : Int) = 1
      · rw [if_pos hm, hm]; rfl
      · rw [if_neg hm]; simp [b2i, hm]
    refine ⟨fun c => absurd hyw c, fun _ => ⟨hpre, ?_⟩⟩
    intro n2 r2 W2 hW2
    have hW2 : n2 = ((waitsE O' H e).length : Int) ∧ n2 ≤ r2 ∧ [W2] = [waitsE O' H e] := hW2
    have hW3 : W2 = waitsE O' H e := by simpa using hW2.2.2
    have hne : ∀ k : Nat, (k : Int) < n2 → W2.getD k 0 ≠ c := by
      intro k hk
      have hk' : k < W2.length := by rw [hW3]; omega
      have : W2.getD k 0 = W2[k] := by simp [List.getD, hk']
      rw [this]
      exact hw.2 _ (by rw [← hW3]; exact List.getElem_mem hk')
    have fin : (0 ≤ j ∧ j ≤ 20 ∧ H = List.replicate m 0 ∧ (O'.length : Int) = j ∧ a' = j ∧ a' ≤ b') ∧ (20 - j).toNat < (20 - i).toNat := ⟨⟨by omega, by omega, hH, by omega, by omega, hb'⟩, by omega⟩
    have k0 := hne 0
    have k1 := hne 1
    have k2 := hne 2
    have k3 := hne 3
    have k4 := hne 4
    have k5 := hne 5
    have k6 := hne 6
    have k7 := hne 7
    clear hne hW hW2 hd hd1
    repeat' first | exact fin | refine And.intro ?_ ?_ | intro _
    · rename_i q x e h; exact k0 q (by rw [h, e]; rfl)
    · rename_i q x e h; exact k1 q (by rw [h, e]; rfl)
    · rename_i q x e h; exact k2 q (by rw [h, e]; rfl)
    · rename_i q x e h; exact k3 q (by rw [h, e]; rfl)
    · rename_i q x e h; exact k4 q (by rw [h, e]; rfl)
    · rename_i q x e h; exact k5 q (by rw [h, e]; rfl)
    · rename_i q x e h; exact k6 q (by rw [h, e]; rfl)
    · rename_i q x e h; exact k7 q (by rw [h, e]; rfl))
theorem epochMany_holds : ((lawSpec L2.f_messuagelaw11_EpochMany [.one (.i .i64), .slc [.i .i64]]).withPre fun _ => True).Holds Tryz.prog L2.ro := holds_withPre _ epochMany_holds0

noncomputable def EpochMany_n_t : Tree := .call 15 (Go.Sx.L2.yes Go.Sx.L2.f_messuagelaw11_begun).rel [] [] 0 0 (.letI (.rem (.v 0) (.c 8)) (.letI (.add (.v 1) (.c 8)) (.letI (.rem (.v 2) (.c 8)) (.letI (.add (.c 1) (.v 3)) (.letL (.rep (.v 4) (.c 0)) (.letL (.lit []) (.loop [.c (0), .c (0), .c (0)] [0, 1] (.exit (.done [] [])))))))))
theorem EpochMany_n_tree : (lawSpec L2.f_messuagelaw11_EpochMany [.one (.i .i64), .nil]).exe Tryz.prog (withS (L2.cfgB Tryz.prog) [L2.eBegin, L2.eAck, L2.eWaits, L2.eDone]) [{ f := L2.f_messuagelaw11_EpochMany, reg := 7, ints := [(7, 0, 20)], lists := [(6, [1], some (0, 18446744073709551615))], cvecs := [(6, [], 0, some (-9223372036854775808, 9223372036854775807))], cnils := [(6, [], 0, [.i .i64], L2.t_int)] }] 20 200 = EpochMany_n_t := by kernel_rfl
theorem EpochMany_n_vc (Q : List Int → List (List Int) → Prop) (v0 : Int) : EpochMany_n_t.dn ⟨Q, []⟩ 1 [v0] 0 [] = ((Go.Sx.L2.yes Go.Sx.L2.f_messuagelaw11_begun).rel.pre [] [] ∧
((Go.Sx.L2.yes Go.Sx.L2.f_messuagelaw11_begun).rel.post [] [] [] [] → ∀ v1 : Int, v1 = (v0).tmod (8 : Int) → ∀ v2 : Int, v2 = v1 + (8 : Int) → ∀ v3 : Int, v3 = (v2).tmod (8 : Int) → ∀ v4 : Int, v4 = (1 : Int) + v3 → ∀ L0 : List Int, L0 = List.replicate (v4).toNat (0 : Int) → ∀ L1 : List Int, L1 = [] → ∃ (I0 : List Int → List (List Int) → Prop) (μ0 : List Int → List (List Int) → Nat), I0 [(0 : Int), (0 : Int), (0 : Int)] [L0, L1] ∧
(∀ v5 : Int, ∀ v6 : Int, ∀ v7 : Int, ∀ L2 : List Int, ∀ L3 : List Int, I0 [v5, v6, v7] [L2, L3] →
 Q [] []))) := by kernel_rfl
set_option maxHeartbeats 4000000 in
theorem epochMany_holds_n0 : (lawSpec L2.f_messuagelaw11_EpochMany [.one (.i .i64), .nil]).Holds Tryz.prog L2.ro := FSpec.holdsV (cfg := withS (L2.cfgB Tryz.prog) [L2.eBegin, L2.eAck, L2.eWaits, L2.eDone]) [{ f := L2.f_messuagelaw11_EpochMany, reg := 7, ints := [(7, 0, 20)], lists := [(6, [1], some (0, 18446744073709551615))], cvecs := [(6, [], 0, some (-9223372036854775808, 9223372036854775807))], cnils := [(6, [], 0, [.i .i64], L2.t_int)] }] 20 200 (withS_ok cfgB_ok ⟨eBegin_holds, eAck_holds, eWaits_holds, eDone_holds, trivial⟩) mixed (t := EpochMany_n_t) EpochMany_n_tree (by
  show ∀ (v0 : Int) , _
  intro v0  hp hr hl
  replace hr : ((-9223372036854775808 : Int) ≤ v0 ∧ v0 ≤ (9223372036854775807 : Int)) ∧ True := hr
  replace hp : True := hp
  show EpochMany_n_t.dn ⟨_, []⟩ 1 [v0] 0 []
  rw [EpochMany_n_vc]
  show ((L2.yes L2.f_messuagelaw11_begun).rel.pre [] [] ∧ _)
  refine ⟨trivial, fun _ => ?_⟩
  intro v3 e3 v4 e4 v5 e5 v6 e6 L1 eL1 L2 eL2
  exact ⟨fun _ _ => True, fun _ _ => 0, trivial, fun _ _ _ _ _ _ => trivial⟩)
theorem epochMany_holds_n : ((lawSpec L2.f_messuagelaw11_EpochMany [.one (.i .i64), .nil]).withPre fun _ => True).Holds Tryz.prog L2.ro := holds_withPre _ epochMany_holds_n0

theorem epochMany_calls {H : Type} {enc : TypeId × Value → H} {W : World} {base : Nat} {args : Array Value} {ds : List (DataW H)} {p : List MemPlace} (hval : ∀ (j : Nat) t v, Tryz.f9.params[j]? = some t → args[j]? = some v → Value.okWide Tryz.prog W .any base t v)
    (hA : DataW.TrodAll enc Tryz.prog W 0 (fun _ => true) true Tryz.f9.params.toList args.toList ds p) (hL : laidMetH Tryz.prog laid1 W) : Calls Tryz.prog 9 args W fun e W' => e = .returned (.bool true) ∧ Go.Sx.Frame ⟨W, [], L2.ro⟩ W' := by
  rw [Tryz.params9] at hA hval
  obtain ⟨v0, v1, d0, d1, p0, p1, rfl, rfl, rfl, h0, h1⟩ := trodAll_two hA
  obtain ⟨n0, q0⟩ := par_int (base := 0) und3 (hval 0 3 v0 rfl rfl) h0
  rcases par_flats (base := 0) (f := 9) und43 flat3 cells3 (by decide) (hval 1 43 v1 rfl rfl) h1 with q1 | ⟨e1, q1⟩
  · exact law_calls (epochMany_holds_n) Tryz.func9 (show Tryz.f9.body = some _ from rfl) (by kernel_rfl) (.cons q0 (.cons q1 .none)) trivial (ro_of_laid hL)
  · exact law_calls (epochMany_holds) Tryz.func9 (show Tryz.f9.body = some _ from rfl) (by kernel_rfl) (.cons q0 (.cons q1 .none)) trivial (ro_of_laid hL)
set_option maxHeartbeats 1000000 in
theorem epochMany_lifted (os : Os) (started : os.Started) (H : Type) (enc : TypeId × Value → H) :
    ReturnsInHanded {} Tryz.checked os 9 .any (fun w args => (Rows.epochManySpec.pre enc Tryz.prog Tryz.f9 [] false w args ∧ laidMetH Tryz.prog laid1 w) ∧ sizedMet enc Tryz.prog Tryz.f9 (OpenSpec.ofChange Rows.epochManySpec) false w args)
      (Rows.epochManySpec.post enc Tryz.prog Tryz.f9 false true false false) := by
  refine returnsInHanded_of_change_and (C := Tryz.checked) (X := fun w _ => laidMetH Tryz.prog laid1 w) (fun _ _ _ hh h => h.of_heap hh) Tryz.own started (by kernel_rfl) Tryz.func9
    (ChangeSpec.witness_at (enc := enc) (C := Tryz.checked) (os := os) (X := fun w _ => laidMetH Tryz.prog laid1 w) false (laidWorld os) #[.int .i64 0, .slice none 0 0] 8 rfl (by kernel_rfl) (by kernel_rfl) (by kernel_rfl) (by kernel_rfl) (by kernel_rfl) (laidWorld_met os _)) ?_
  intro W base args ds gs before hval0 hW _ _ hL _
  have hval : ∀ (j : Nat) t v, Tryz.f9.params[j]? = some t → args[j]? = some v → Value.okWide Tryz.prog W .any base t v := hval0
  have hW' := hW
  obtain ⟨p, q, hA0, hV0, rfl, hfz, hnd⟩ := hW
  have hcall := epochMany_calls (enc := enc) hval hA0 hL
  refine Calls.mono hcall ?_
  rintro e W' ⟨rfl, hfr⟩
  exact ⟨_, rfl, post_kept Tryz.laidOut (by kernel_rfl) rfl rfl und4 hW' hfr (by
    have hg : gs = [] := by cases gs with | nil => rfl | cons g r => exact absurd hV0 (by intro h; cases h)
    subst hg
    have hA1 : DataW.TrodAll enc Tryz.prog W 0 (fun _ => true) true Tryz.f9.params.toList args.toList ds p := hA0
    rw [Tryz.params9] at hA1
    obtain ⟨v0, v1, d0, d1, p0, p1, ea, rfl, ec, h0, h1⟩ := trodAll_two hA1
    rfl)⟩

theorem epochMany_row : Rows.EpochManySaid :=
  OpenClaim.holds_of_wide 9 Tryz.f9 rfl rfl rfl rfl rfl rfl rfl ⟨rfl, rfl, rfl, rfl, rfl⟩ rfl rfl rfl rfl rfl (by kernel_rfl) Tryz.func9 (restFacts.2 _ _ _ _ _ Tryz.mayEnter Tryz.liftsFinal Tryz.make (by kernel_rfl))
    (of_decide_eq_true (by kernel_rfl)) (by unfold Func.isWrapper; rw [if_neg (of_decide_eq_false (by kernel_rfl))]; exact ⟨rfl, rfl⟩)
    (fun os started H enc _ => epochMany_lifted os started H enc)
theorem epochMany_card : Rows.EpochManyCardSaid :=
  Claim7.holds_tied_plain_at .later [] [.handle] true (true, "2b6aa8c52f26a36866b589049fd1d65802bdae42632cc16d24d227b9428605b6") true
    epochMany_row (fun _ h => by cases h) (by kernel_rfl) (fun _ h => by cases h) epochMany_row_tie rfl ⟨rfl, rfl⟩ Tryz.mainIs rfl
    (fun f fn hf hfn => by
      obtain rfl : f = 9 := Option.some.inj ((show Tryz.prog.funcNamed "messuage/messuagelaw11.EpochMany" = some 9 by kernel_rfl).symm.trans hf) |>.symm
      obtain rfl : fn = Tryz.f9 := (Option.some.inj (Tryz.func9.symm.trans hfn)).symm
      exact ⟨by kernel_rfl, fun j t ht => by
        rw [Tryz.params9] at ht
        rcases j with _ | _ | j
        · obtain rfl : 3 = t := by simpa using ht
          exact (show Tryz.prog.wantsStandIn 3 = false by kernel_rfl)
        · obtain rfl : 43 = t := by simpa using ht
          exact (show Tryz.prog.wantsStandIn 43 = false by kernel_rfl)
        · simp at ht⟩)
    (by kernel_rfl)
#print axioms epochMany_card
end Go.Proofs.YtegeplgckfpleaaGreatDoor
