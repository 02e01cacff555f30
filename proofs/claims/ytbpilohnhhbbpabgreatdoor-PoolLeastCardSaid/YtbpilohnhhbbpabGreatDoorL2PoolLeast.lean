/- The statement messuagelaw2.PoolLeast of the seat: for every input the law returns true; the condition: errors.errorType is as the program lays it. -/
import Derived.Test.YtbpilohnhhbbpabGreatDoorL2B
import Derived.Test.YtbpilohnhhbbpabGreatDoorSxM7
import Derived.Test.YtbpilohnhhbbpabGreatDoorL2Po2
set_option linter.unusedVariables false
set_option linter.constructorNameAsVariable false
set_option linter.unusedSimpArgs false
open Go Go.Sx
namespace Go.Proofs.YtbpilohnhhbbpabGreatDoor
open Go.ChangeShapes Go.WideShapes Go.RowKit
set_option maxRecDepth 100000

noncomputable def PoolLeast_t : Tree := .call 8 (Go.Sx.L2.yes Go.Sx.L2.f_messuagelaw2_begun).rel [] [] 0 0 (.letI (.rem (.v 0) (.c 16)) (.letI (.add (.v 3) (.c 16)) (.letI (.rem (.v 4) (.c 16)) (.letI (.add (.c 1) (.v 5)) (.letL (.rep (.v 6) (.c 0)) (.loop [.c (0)] [1] (.letI (.cmp .lss (.v 7) (.v 6)) (.ite (.v 8) (.call 21 (Go.Sx.L2.pTake).rel [.v 6] [2] 2 1 (.letI (.not (.v 10)) (.ite (.v 11) (.exit (.fail 180)) (.letI (.cmp .neq (.v 7) (.v 9)) (.ite (.v 12) (.exit (.fail 180)) (.letI (.add (.v 7) (.c 1)) (.again [.v 13] [3]))))))) (.exit (.call 21 (Go.Sx.L2.pTake).rel [.v 6] [2] 2 1 (.ite (.v 10) (.fail 180) (.letL (.rep (.c 16) (.c 0)) (.loop [.c (0)] [3, 4] (.letI (.cmp .lss (.v 11) (.v 1)) (.ite (.v 12) (.letI (.cmp .lss (.v 11) (.c 20)) (.ite (.v 13) (.need .lss (.v 11) (.v 1) (.need .lss (.v 11) (.v 1) (.letI (.get 0 (.v 11)) (.letI (.rem (.v 14) (.v 6)) (.letI (.add (.v 15) (.v 6)) (.letI (.rem (.v 16) (.v 6)) (.need .geq (.v 17) (.c 0) (.call 22 (Go.Sx.L2.pLet).rel [.v 6, .v 17] [5] 2 1 (.letI (.get 6 (.v 17)) (.letI (.not (.v 19)) (.letI (.not (.v 20)) (.letI (.cmp .eql (.v 21) (.v 22)) (.ite (.v 23) (.exit (.fail 180)) (.letI (.cmp .neq (.v 18) (.c 0)) (.ite (.v 24) (.exit (.fail 180)) (.letL (.set 6 (.v 17) (.c 1)) (.letI (.add (.v 11) (.c 1)) (.again [.v 25] [7, 8])))))))))))))))))) (.exit (.loop [.c (0)] [5] (.letI (.cmp .lss (.v 14) (.v 6)) (.ite (.v 15) (.letI (.get 6 (.v 14)) (.ite (.v 16) (.call 21 (Go.Sx.L2.pTake).rel [.v 6] [7] 2 1 (.letI (.not (.v 18)) (.ite (.v 19) (.exit (.fail 180)) (.letI (.cmp .neq (.v 14) (.v 17)) (.ite (.v 20) (.exit (.fail 180)) (.letI (.add (.v 14) (.c 1)) (.again [.v 21] [8]))))))) (.letI (.add (.v 14) (.c 1)) (.again [.v 17] [7])))) (.exit (.call 23 (Go.Sx.L2.pFree).rel [.v 6] [7] 2 1 (.letI (.cmp .eql (.v 16) (.c 0)) (.ite (.v 18) (.call 24 (Go.Sx.L2.pBits).rel [.v 6] [7] 1 0 (.letI (.cmp .eql (.v 19) (.c 0)) (.need .neq (.v 20) (.c 0) (.done [] [])))) (.fail 180))))))))))) (.exit (.loop [.c (0)] [5] (.letI (.cmp .lss (.v 13) (.v 6)) (.ite (.v 14) (.letI (.get 6 (.v 13)) (.ite (.v 15) (.call 21 (Go.Sx.L2.pTake).rel [.v 6] [7] 2 1 (.letI (.not (.v 17)) (.ite (.v 18) (.exit (.fail 180)) (.letI (.cmp .neq (.v 13) (.v 16)) (.ite (.v 19) (.exit (.fail 180)) (.letI (.add (.v 13) (.c 1)) (.again [.v 20] [8]))))))) (.letI (.add (.v 13) (.c 1)) (.again [.v 16] [7])))) (.exit (.call 23 (Go.Sx.L2.pFree).rel [.v 6] [7] 2 1 (.letI (.cmp .eql (.v 15) (.c 0)) (.ite (.v 17) (.call 24 (Go.Sx.L2.pBits).rel [.v 6] [7] 1 0 (.letI (.cmp .eql (.v 18) (.c 0)) (.need .neq (.v 19) (.c 0) (.done [] [])))) (.fail 180))))))))))))))))))))))))
theorem PoolLeast_tree : (lawSpec L2.f_messuagelaw2_PoolLeast [.one (.i .i64), .slc [.i .i64]]).exe Tryz.prog (withS (L2.cfgB Tryz.prog) [L2.pTake, L2.pLet, L2.pFree, L2.pBits]) [{ f := L2.f_messuagelaw2_PoolLeast, reg := 7, ints := [(7, 0, 16)], lists := [(6, [0], some (0, 7))] }, { f := L2.f_messuagelaw2_PoolLeast, reg := 17, ints := [(13, 0, 20)], lists := [(6, [0], some (0, 7)), (12, [], some (0, 1))], maps := [(12, .i64, .b)] }, { f := L2.f_messuagelaw2_PoolLeast, reg := 25, ints := [(17, 0, 16)], lists := [(6, [0], some (0, 7))] }] 20 200 = PoolLeast_t := by kernel_rfl
theorem PoolLeast_vc (Q : List Int → List (List Int) → Prop) (v0 v1 v2 : Int) (L0 : List Int) : PoolLeast_t.dn ⟨Q, []⟩ 3 [v2, v1, v0] 1 [L0] = ((Go.Sx.L2.yes Go.Sx.L2.f_messuagelaw2_begun).rel.pre [] [] ∧
((Go.Sx.L2.yes Go.Sx.L2.f_messuagelaw2_begun).rel.post [] [] [] [] → ∀ v3 : Int, v3 = (v0).tmod (16 : Int) → ∀ v4 : Int, v4 = v3 + (16 : Int) → ∀ v5 : Int, v5 = (v4).tmod (16 : Int) → ∀ v6 : Int, v6 = (1 : Int) + v5 → ∀ L1 : List Int, L1 = List.replicate (v6).toNat (0 : Int) → ∃ (I0 : List Int → List (List Int) → Prop) (μ0 : List Int → List (List Int) → Nat), I0 [(0 : Int)] [L1] ∧
(∀ v7 : Int, ∀ L2 : List Int, I0 [v7] [L2] →
 ((v7 < v6) → (Go.Sx.L2.pTake).rel.pre [v6] [L2] ∧
(∀ v9 : Int, ∀ v10 : Int, ∀ L3 : List Int, (Go.Sx.L2.pTake).rel.post [v6] [L2] [v9, v10] [L3] → ∀ v11 : Int, v11 = b2i (v10 == 0) → (v11 ≠ 0 → False) ∧
(v11 = 0 → ((v7 ≠ v9) → False) ∧
((v7 = v9) → ∀ v13 : Int, v13 = v7 + (1 : Int) → (I0 [v13] [L3] ∧ μ0 [v13] [L3] < μ0 [v7] [L2]))))) ∧
((v6 ≤ v7) → (Go.Sx.L2.pTake).rel.pre [v6] [L2] ∧
(∀ v9 : Int, ∀ v10 : Int, ∀ L3 : List Int, (Go.Sx.L2.pTake).rel.post [v6] [L2] [v9, v10] [L3] → (v10 ≠ 0 → False) ∧
(v10 = 0 → ∀ L4 : List Int, L4 = List.replicate ((16 : Int)).toNat (0 : Int) → ∃ (I1 : List Int → List (List Int) → Prop) (μ1 : List Int → List (List Int) → Nat), I1 [(0 : Int)] [L3, L4] ∧
(∀ v11 : Int, ∀ L5 : List Int, ∀ L6 : List Int, I1 [v11] [L5, L6] →
 ((v11 < v1) → ((v11 < (20 : Int)) → (v11 < v1) ∧ (v11 < v1) ∧ ∀ v14 : Int, v14 = (L0).getD (v11).toNat 0 → ∀ v15 : Int, v15 = (v14).tmod v6 → ∀ v16 : Int, v16 = v15 + v6 → ∀ v17 : Int, v17 = (v16).tmod v6 → ((0 : Int) ≤ v17) ∧ (Go.Sx.L2.pLet).rel.pre [v6, v17] [L5] ∧
(∀ v18 : Int, ∀ v19 : Int, ∀ L7 : List Int, (Go.Sx.L2.pLet).rel.post [v6, v17] [L5] [v18, v19] [L7] → ∀ v20 : Int, v20 = (L6).getD (v17).toNat 0 → ∀ v21 : Int, v21 = b2i (v19 == 0) → ∀ v22 : Int, v22 = b2i (v20 == 0) → ((v21 = v22) → False) ∧
((v21 ≠ v22) → ((v18 ≠ (0 : Int)) → False) ∧
((v18 = (0 : Int)) → ∀ L8 : List Int, L8 = (L6).set (v17).toNat (1 : Int) → ∀ v25 : Int, v25 = v11 + (1 : Int) → (I1 [v25] [L7, L8] ∧ μ1 [v25] [L7, L8] < μ1 [v11] [L5, L6]))))) ∧
(((20 : Int) ≤ v11) → ∃ (I2 : List Int → List (List Int) → Prop) (μ2 : List Int → List (List Int) → Nat), I2 [(0 : Int)] [L5] ∧
(∀ v14 : Int, ∀ L7 : List Int, I2 [v14] [L7] →
 ((v14 < v6) → ∀ v16 : Int, v16 = (L6).getD (v14).toNat 0 → (v16 ≠ 0 → (Go.Sx.L2.pTake).rel.pre [v6] [L7] ∧
(∀ v17 : Int, ∀ v18 : Int, ∀ L8 : List Int, (Go.Sx.L2.pTake).rel.post [v6] [L7] [v17, v18] [L8] → ∀ v19 : Int, v19 = b2i (v18 == 0) → (v19 ≠ 0 → False) ∧
(v19 = 0 → ((v14 ≠ v17) → False) ∧
((v14 = v17) → ∀ v21 : Int, v21 = v14 + (1 : Int) → (I2 [v21] [L8] ∧ μ2 [v21] [L8] < μ2 [v14] [L7]))))) ∧
(v16 = 0 → ∀ v17 : Int, v17 = v14 + (1 : Int) → (I2 [v17] [L7] ∧ μ2 [v17] [L7] < μ2 [v14] [L7]))) ∧
((v6 ≤ v14) → (Go.Sx.L2.pFree).rel.pre [v6] [L7] ∧
(∀ v16 : Int, ∀ v17 : Int, ∀ L8 : List Int, (Go.Sx.L2.pFree).rel.post [v6] [L7] [v16, v17] [L8] → ((v16 = (0 : Int)) → (Go.Sx.L2.pBits).rel.pre [v6] [L7] ∧
(∀ v19 : Int, (Go.Sx.L2.pBits).rel.post [v6] [L7] [v19] [] → ∀ v20 : Int, v20 = b2i (v19 == (0 : Int)) → (v20 ≠ (0 : Int)) ∧ Q [] [])) ∧
((v16 ≠ (0 : Int)) → False)))))) ∧
((v1 ≤ v11) → ∃ (I2 : List Int → List (List Int) → Prop) (μ2 : List Int → List (List Int) → Nat), I2 [(0 : Int)] [L5] ∧
(∀ v13 : Int, ∀ L7 : List Int, I2 [v13] [L7] →
 ((v13 < v6) → ∀ v15 : Int, v15 = (L6).getD (v13).toNat 0 → (v15 ≠ 0 → (Go.Sx.L2.pTake).rel.pre [v6] [L7] ∧
(∀ v16 : Int, ∀ v17 : Int, ∀ L8 : List Int, (Go.Sx.L2.pTake).rel.post [v6] [L7] [v16, v17] [L8] → ∀ v18 : Int, v18 = b2i (v17 == 0) → (v18 ≠ 0 → False) ∧
(v18 = 0 → ((v13 ≠ v16) → False) ∧
((v13 = v16) → ∀ v20 : Int, v20 = v13 + (1 : Int) → (I2 [v20] [L8] ∧ μ2 [v20] [L8] < μ2 [v13] [L7]))))) ∧
(v15 = 0 → ∀ v16 : Int, v16 = v13 + (1 : Int) → (I2 [v16] [L7] ∧ μ2 [v16] [L7] < μ2 [v13] [L7]))) ∧
((v6 ≤ v13) → (Go.Sx.L2.pFree).rel.pre [v6] [L7] ∧
(∀ v15 : Int, ∀ v16 : Int, ∀ L8 : List Int, (Go.Sx.L2.pFree).rel.post [v6] [L7] [v15, v16] [L8] → ((v15 = (0 : Int)) → (Go.Sx.L2.pBits).rel.pre [v6] [L7] ∧
(∀ v18 : Int, (Go.Sx.L2.pBits).rel.post [v6] [L7] [v18] [] → ∀ v19 : Int, v19 = b2i (v18 == (0 : Int)) → (v19 ≠ (0 : Int)) ∧ Q [] [])) ∧
((v15 ≠ (0 : Int)) → False)))))))))))) := by kernel_rfl
set_option maxHeartbeats 4000000 in
theorem poolLeast_holds0 : (lawSpec L2.f_messuagelaw2_PoolLeast [.one (.i .i64), .slc [.i .i64]]).Holds Tryz.prog L2.ro := FSpec.holdsV (cfg := withS (L2.cfgB Tryz.prog) [L2.pTake, L2.pLet, L2.pFree, L2.pBits]) [{ f := L2.f_messuagelaw2_PoolLeast, reg := 7, ints := [(7, 0, 16)], lists := [(6, [0], some (0, 7))] }, { f := L2.f_messuagelaw2_PoolLeast, reg := 17, ints := [(13, 0, 20)], lists := [(6, [0], some (0, 7)), (12, [], some (0, 1))], maps := [(12, .i64, .b)] }, { f := L2.f_messuagelaw2_PoolLeast, reg := 25, ints := [(17, 0, 16)], lists := [(6, [0], some (0, 7))] }] 20 200 (withS_ok cfgB_ok ⟨pTake_holds, pLet_holds, pFree_holds, pBits_holds, trivial⟩) mixed (t := PoolLeast_t) PoolLeast_tree (by
  show ∀ (v0 v1 v2 : Int) (L0 : List Int), _
  intro v0 v1 v2 L0 hp hr hl
  replace hr : ((-9223372036854775808 : Int) ≤ v0 ∧ v0 ≤ (9223372036854775807 : Int)) ∧ ((0 : Int) ≤ v1 ∧ v1 ≤ (9223372036854775807 : Int)) ∧ ((0 : Int) ≤ v2 ∧ v2 ≤ (9223372036854775807 : Int)) ∧ True := hr
  replace hp : (True ∧ ((0 : Int) ≤ v1 ∧ v1 ≤ v2 ∧ (L0.length : Int) = v1 * ((1 : Nat) : Int) ∧ ((1 : Nat) ≠ 1 → [v0, v1, v2].getD 3 0 = v1 * ((1 : Nat) : Int)) ∧ ∀ j, j < L0.length → ((oneKind [.i .i64]).getD (j % (oneKind [.i .i64]).length) (.i .i64)).lo ≤ L0.getD j 0 ∧ L0.getD j 0 ≤ ((oneKind [.i .i64]).getD (j % (oneKind [.i .i64]).length) (.i .i64)).hi)) := hp
  show PoolLeast_t.dn ⟨_, []⟩ 3 [v2, v1, v0] 1 [L0]
  rw [PoolLeast_vc]
  show ((L2.yes L2.f_messuagelaw2_begun).rel.pre [] [] ∧ _)
  refine ⟨trivial, fun _ => ?_⟩
  intro a1 e1 a2 e2 a3 e3 a4 e4 L1 eL
  have q3 := tmodR (x := v0) (m := 16) (by omega)
  have q5 := tmodP (x := a2) (m := 16) (by omega) (by omega)
  have hn : 1 ≤ a4 ∧ a4 ≤ 16 := by omega
  clear q3 q5 e1 e2 e3 e4 hl
  obtain ⟨n, rfl⟩ : ∃ m : Nat, a4 = m := ⟨a4.toNat, by omega⟩
  rw [Int.toNat_natCast] at eL
  refine ⟨fun xs ys => match xs, ys with | [i], [L] => 0 ≤ i ∧ i ≤ (n : Int) ∧ L.length = n ∧ ∀ j : Nat, j < n → L.getD j 0 = if (j : Int) < i then 1 else 0 | _, _ => False, fun xs _ => match xs with | i :: _ => ((n : Int) - i).toNat | _ => 0, ?_, ?_⟩ <;> dsimp only
  · exact ⟨by omega, by omega, by rw [eL, List.length_replicate], fun j hj => by rw [eL, getD_repP hj, if_neg (by omega)]⟩
  · intro x L2 hI
    obtain ⟨i0, i1, hl2, hv2⟩ := hI
    obtain ⟨i, rfl⟩ : ∃ m : Nat, x = m := ⟨x.toNat, by omega⟩
    refine ⟨fun c => ⟨show (L2.length : Int) = n by omega, fun p q L3 hT y ey => ?_⟩, fun c => ⟨show (L2.length : Int) = n by omega, fun p q L3 hT => ?_⟩⟩
    · have hi0 : L2.getD i 0 = 0 := by rw [hv2 i (by omega), if_neg (by omega)]
      have hbef : ∀ j, j < i → L2.getD j 0 ≠ 0 := fun j hj => by rw [hv2 j (by omega), if_pos (by omega)]; decide
      have hT' : TakeP L2 [p, q] [L3] := hT
      clear hT
      obtain ⟨rfl, rfl, rfl⟩ := takeP_at hT' (by omega) hi0 hbef
      refine ⟨fun h => h (by rw [ey]; rfl), fun _ => ⟨fun h => h rfl, fun _ z ez => ⟨⟨by omega, by omega, by rw [List.length_set]; exact hl2, fun j hj => ?_⟩, by omega⟩⟩⟩
      rw [getD_setP (by omega)]
      by_cases h : j = i
      · rw [if_pos h, if_pos (by omega)]
      · rw [if_neg h, hv2 j hj]
        by_cases h2 : (j : Int) < i
        · rw [if_pos h2, if_pos (by omega)]
        · rw [if_neg h2, if_neg (by omega)]
    · have hN : NoP L2 := fun j hj => by rw [hv2 j (by omega), if_pos (by omega)]; decide
      have hT' : TakeP L2 [p, q] [L3] := hT
      clear hT
      obtain ⟨rfl, rfl, rfl⟩ := takeP_none hT' hN
      refine ⟨fun h => h rfl, fun _ L4 e4 => ?_⟩
      have hl4 : L4.length = 16 := by rw [e4]; rfl
      have hv4 : ∀ j : Nat, L4.getD j 0 = 0 := fun j => by rw [e4]; show (List.replicate 16 (0 : Int)).getD j 0 = 0; rw [List.getD_eq_getElem?_getD, List.getElem?_replicate]; split <;> rfl
      clear e4
      refine ⟨fun xs ys => match xs, ys with | [i], [L, H] => 0 ≤ i ∧ L.length = n ∧ H.length = 16 ∧ ∀ j : Nat, j < n → L.getD j 0 = if H.getD j 0 ≠ 0 then 0 else 1 | _, _ => False, fun xs _ => match xs with | i :: _ => (v1 - i).toNat | _ => 0, ?_, ?_⟩ <;> dsimp only
      · exact ⟨by omega, hl2, hl4, fun j hj => by rw [hv2 j hj, if_pos (by omega), hv4 j]; rfl⟩
      · intro x L5 L6 hI
        obtain ⟨k0, hl5, hl6, hv5⟩ := hI
        refine ⟨fun c => ⟨fun c2 => ⟨c, c, fun w ew r er s es f ef => ?_⟩, fun _ => ?_⟩, fun _ => ?_⟩
        · have r1 := tmodR (x := w) (m := n) (by omega)
          have r2 := tmodP (x := s) (m := n) (by omega) (by omega)
          have hf : 0 ≤ f ∧ f < n := by omega
          clear r1 r2 ew er es ef
          obtain ⟨f, rfl⟩ : ∃ m : Nat, f = m := ⟨f.toNat, by omega⟩
          refine ⟨by omega, ⟨show (L5.length : Int) = n by omega, show (f : Int) < n by omega⟩, fun p q L7 hL g eg y ey z ez => ?_⟩
          have hL' : LetP L5 f [p, q] [L7] := hL
          have hff := hv5 f (by omega)
          rw [Int.toNat_natCast] at eg
          unfold LetP at hL'
          rw [Int.toNat_natCast] at hL'
          rcases hL' with ⟨h0, hx, hy⟩ | ⟨h0, hx, hy⟩
          · have hg : L6.getD f 0 ≠ 0 := fun h => by rw [h0, if_neg (by simpa using h)] at hff; cases hff
            obtain ⟨rfl, rfl⟩ : p = 0 ∧ q = 0 := by simpa using hx
            obtain rfl : L7 = L5 := by simpa using hy
            refine ⟨fun h => ?_, fun _ => ⟨fun h => h rfl, fun _ L8 e8 u eu => ⟨⟨by omega, hl5, by rw [e8, List.length_set]; exact hl6, fun j hj => ?_⟩, by omega⟩⟩⟩
            · rw [ey, ez, eg] at h
              have : (L6.getD f 0 == 0) = false := by simpa using hg
              rw [this] at h
              cases h
            · rw [e8, Int.toNat_natCast, getD_setP (by omega)]
              by_cases h : j = f
              · subst h; rw [if_pos rfl, if_pos (by decide)]; exact h0
              · rw [if_neg h]; exact hv5 j hj
          · have hg : L6.getD f 0 = 0 := Classical.byContradiction fun h => by rw [if_pos h] at hff; exact h0 hff
            rw [if_neg (by simpa using hg)] at hff
            rw [hff] at hx hy
            obtain ⟨rfl, rfl⟩ : p = 0 ∧ q = 1 := by simpa using hx
            obtain rfl : L7 = L5.set f 0 := by simpa using hy
            refine ⟨fun h => ?_, fun _ => ⟨fun h => h rfl, fun _ L8 e8 u eu => ⟨⟨by omega, by rw [List.length_set]; exact hl5, by rw [e8, List.length_set]; exact hl6, fun j hj => ?_⟩, by omega⟩⟩⟩
            · rw [ey, ez, eg, hg] at h
              cases h
            · rw [e8, Int.toNat_natCast, getD_setP (by omega), getD_setP (by omega)]
              by_cases h : j = f
              · subst h; rw [if_pos rfl, if_pos rfl, if_pos (by decide)]
              · rw [if_neg h, if_neg h]; exact hv5 j hj
        · refine ⟨fun xs ys => match xs, ys with | [i], [L] => 0 ≤ i ∧ i ≤ (n : Int) ∧ L.length = n ∧ ∀ j : Nat, j < n → L.getD j 0 = if i ≤ (j : Int) ∧ L6.getD j 0 ≠ 0 then 0 else 1 | _, _ => False, fun xs _ => match xs with | i :: _ => ((n : Int) - i).toNat | _ => 0, ?_, ?_⟩ <;> dsimp only
          · exact ⟨by omega, by omega, hl5, fun j hj => by rw [hv5 j hj]; by_cases h : L6.getD j 0 = 0 <;> simp [h]⟩
          · intro x L7 hI
            obtain ⟨i0, i1, hl7, hv7⟩ := hI
            obtain ⟨i, rfl⟩ : ∃ m : Nat, x = m := ⟨x.toNat, by omega⟩
            refine ⟨fun c w ew => ⟨fun hw => ⟨show (L7.length : Int) = n by omega, fun p q L8 hT y ey => ?_⟩, fun hw z ez => ⟨⟨by omega, by omega, hl7, fun j hj => ?_⟩, by omega⟩⟩, fun c => ⟨show (L7.length : Int) = n by omega, fun p q L8 hF => ?_⟩⟩
            · rw [Int.toNat_natCast] at ew
              have hi0 : L7.getD i 0 = 0 := by rw [hv7 i (by omega), if_pos ⟨by omega, by rw [← ew]; exact hw⟩]
              have hbef : ∀ j, j < i → L7.getD j 0 ≠ 0 := fun j hj => by rw [hv7 j (by omega), if_neg (by omega)]; decide
              have hT' : TakeP L7 [p, q] [L8] := hT
              clear hT
              obtain ⟨rfl, rfl, rfl⟩ := takeP_at hT' (by omega) hi0 hbef
              refine ⟨fun h => h (by rw [ey]; rfl), fun _ => ⟨fun h => h rfl, fun _ z ez => ⟨⟨by omega, by omega, by rw [List.length_set]; exact hl7, fun j hj => ?_⟩, by omega⟩⟩⟩
              rw [getD_setP (by omega)]
              by_cases h : j = i
              · rw [if_pos h, if_neg (by omega)]
              · rw [if_neg h, hv7 j hj]
                by_cases h2 : (i : Int) ≤ j
                · simp only [h2, show z ≤ (j : Int) by omega]
                · simp only [h2, show ¬ z ≤ (j : Int) by omega]
            · rw [hv7 j hj]
              rw [Int.toNat_natCast] at ew
              by_cases h : j = i
              · subst h; rw [if_neg (by rw [← ew]; exact fun q => q.2 hw), if_neg (by omega)]
              · by_cases h2 : (i : Int) ≤ j
                · simp only [h2, show z ≤ (j : Int) by omega]
                · simp only [h2, show ¬ z ≤ (j : Int) by omega]
            · have hN : NoP L7 := fun j hj => by rw [hv7 j (by omega), if_neg (by omega)]; decide
              refine ⟨fun hp0 => ⟨show (L7.length : Int) = n by omega, fun y hB z ez => ?_⟩, fun h => h (hF hN)⟩
              have hy : [y] = [0] := hB hN
              obtain rfl : y = 0 := by simpa using hy
              exact ⟨by rw [ez]; decide, trivial⟩
        · refine ⟨fun xs ys => match xs, ys with | [i], [L] => 0 ≤ i ∧ i ≤ (n : Int) ∧ L.length = n ∧ ∀ j : Nat, j < n → L.getD j 0 = if i ≤ (j : Int) ∧ L6.getD j 0 ≠ 0 then 0 else 1 | _, _ => False, fun xs _ => match xs with | i :: _ => ((n : Int) - i).toNat | _ => 0, ?_, ?_⟩ <;> dsimp only
          · exact ⟨by omega, by omega, hl5, fun j hj => by rw [hv5 j hj]; by_cases h : L6.getD j 0 = 0 <;> simp [h]⟩
          · intro x L7 hI
            obtain ⟨i0, i1, hl7, hv7⟩ := hI
            obtain ⟨i, rfl⟩ : ∃ m : Nat, x = m := ⟨x.toNat, by omega⟩
            refine ⟨fun c w ew => ⟨fun hw => ⟨show (L7.length : Int) = n by omega, fun p q L8 hT y ey => ?_⟩, fun hw z ez => ⟨⟨by omega, by omega, hl7, fun j hj => ?_⟩, by omega⟩⟩, fun c => ⟨show (L7.length : Int) = n by omega, fun p q L8 hF => ?_⟩⟩
            · rw [Int.toNat_natCast] at ew
              have hi0 : L7.getD i 0 = 0 := by rw [hv7 i (by omega), if_pos ⟨by omega, by rw [← ew]; exact hw⟩]
              have hbef : ∀ j, j < i → L7.getD j 0 ≠ 0 := fun j hj => by rw [hv7 j (by omega), if_neg (by omega)]; decide
              have hT' : TakeP L7 [p, q] [L8] := hT
              clear hT
              obtain ⟨rfl, rfl, rfl⟩ := takeP_at hT' (by omega) hi0 hbef
              refine ⟨fun h => h (by rw [ey]; rfl), fun _ => ⟨fun h => h rfl, fun _ z ez => ⟨⟨by omega, by omega, by rw [List.length_set]; exact hl7, fun j hj => ?_⟩, by omega⟩⟩⟩
              rw [getD_setP (by omega)]
              by_cases h : j = i
              · rw [if_pos h, if_neg (by omega)]
              · rw [if_neg h, hv7 j hj]
                by_cases h2 : (i : Int) ≤ j
                · simp only [h2, show z ≤ (j : Int) by omega]
                · simp only [h2, show ¬ z ≤ (j : Int) by omega]
            · rw [hv7 j hj]
              rw [Int.toNat_natCast] at ew
              by_cases h : j = i
              · subst h; rw [if_neg (by rw [← ew]; exact fun q => q.2 hw), if_neg (by omega)]
              · by_cases h2 : (i : Int) ≤ j
                · simp only [h2, show z ≤ (j : Int) by omega]
                · simp only [h2, show ¬ z ≤ (j : Int) by omega]
            · have hN : NoP L7 := fun j hj => by rw [hv7 j (by omega), if_neg (by omega)]; decide
              refine ⟨fun hp0 => ⟨show (L7.length : Int) = n by omega, fun y hB z ez => ?_⟩, fun h => h (hF hN)⟩
              have hy : [y] = [0] := hB hN
              obtain rfl : y = 0 := by simpa using hy
              exact ⟨by rw [ez]; decide, trivial⟩)
theorem poolLeast_holds : ((lawSpec L2.f_messuagelaw2_PoolLeast [.one (.i .i64), .slc [.i .i64]]).withPre fun _ => True).Holds Tryz.prog L2.ro := holds_withPre _ poolLeast_holds0

noncomputable def PoolLeast_n_t : Tree := .call 8 (Go.Sx.L2.yes Go.Sx.L2.f_messuagelaw2_begun).rel [] [] 0 0 (.letI (.rem (.v 0) (.c 16)) (.letI (.add (.v 1) (.c 16)) (.letI (.rem (.v 2) (.c 16)) (.letI (.add (.c 1) (.v 3)) (.letL (.rep (.v 4) (.c 0)) (.loop [.c (0)] [0] (.letI (.cmp .lss (.v 5) (.v 4)) (.ite (.v 6) (.call 21 (Go.Sx.L2.pTake).rel [.v 4] [1] 2 1 (.letI (.not (.v 8)) (.ite (.v 9) (.exit (.fail 180)) (.letI (.cmp .neq (.v 5) (.v 7)) (.ite (.v 10) (.exit (.fail 180)) (.letI (.add (.v 5) (.c 1)) (.again [.v 11] [2]))))))) (.exit (.call 21 (Go.Sx.L2.pTake).rel [.v 4] [1] 2 1 (.ite (.v 8) (.fail 180) (.letL (.rep (.c 16) (.c 0)) (.loop [.c (0)] [2, 3] (.exit (.loop [.c (0)] [4] (.letI (.cmp .lss (.v 10) (.v 4)) (.ite (.v 11) (.letI (.get 5 (.v 10)) (.ite (.v 12) (.call 21 (Go.Sx.L2.pTake).rel [.v 4] [6] 2 1 (.letI (.not (.v 14)) (.ite (.v 15) (.exit (.fail 180)) (.letI (.cmp .neq (.v 10) (.v 13)) (.ite (.v 16) (.exit (.fail 180)) (.letI (.add (.v 10) (.c 1)) (.again [.v 17] [7]))))))) (.letI (.add (.v 10) (.c 1)) (.again [.v 13] [6])))) (.exit (.call 23 (Go.Sx.L2.pFree).rel [.v 4] [6] 2 1 (.letI (.cmp .eql (.v 12) (.c 0)) (.ite (.v 14) (.call 24 (Go.Sx.L2.pBits).rel [.v 4] [6] 1 0 (.letI (.cmp .eql (.v 15) (.c 0)) (.need .neq (.v 16) (.c 0) (.done [] [])))) (.fail 180))))))))))))))))))))))
theorem PoolLeast_n_tree : (lawSpec L2.f_messuagelaw2_PoolLeast [.one (.i .i64), .nil]).exe Tryz.prog (withS (L2.cfgB Tryz.prog) [L2.pTake, L2.pLet, L2.pFree, L2.pBits]) [{ f := L2.f_messuagelaw2_PoolLeast, reg := 7, ints := [(7, 0, 16)], lists := [(6, [0], some (0, 7))] }, { f := L2.f_messuagelaw2_PoolLeast, reg := 17, ints := [(13, 0, 20)], lists := [(6, [0], some (0, 7)), (12, [], some (0, 1))], maps := [(12, .i64, .b)] }, { f := L2.f_messuagelaw2_PoolLeast, reg := 25, ints := [(17, 0, 16)], lists := [(6, [0], some (0, 7))] }] 20 200 = PoolLeast_n_t := by kernel_rfl
theorem PoolLeast_n_vc (Q : List Int → List (List Int) → Prop) (v0 : Int) : PoolLeast_n_t.dn ⟨Q, []⟩ 1 [v0] 0 [] = ((Go.Sx.L2.yes Go.Sx.L2.f_messuagelaw2_begun).rel.pre [] [] ∧
((Go.Sx.L2.yes Go.Sx.L2.f_messuagelaw2_begun).rel.post [] [] [] [] → ∀ v1 : Int, v1 = (v0).tmod (16 : Int) → ∀ v2 : Int, v2 = v1 + (16 : Int) → ∀ v3 : Int, v3 = (v2).tmod (16 : Int) → ∀ v4 : Int, v4 = (1 : Int) + v3 → ∀ L0 : List Int, L0 = List.replicate (v4).toNat (0 : Int) → ∃ (I0 : List Int → List (List Int) → Prop) (μ0 : List Int → List (List Int) → Nat), I0 [(0 : Int)] [L0] ∧
(∀ v5 : Int, ∀ L1 : List Int, I0 [v5] [L1] →
 ((v5 < v4) → (Go.Sx.L2.pTake).rel.pre [v4] [L1] ∧
(∀ v7 : Int, ∀ v8 : Int, ∀ L2 : List Int, (Go.Sx.L2.pTake).rel.post [v4] [L1] [v7, v8] [L2] → ∀ v9 : Int, v9 = b2i (v8 == 0) → (v9 ≠ 0 → False) ∧
(v9 = 0 → ((v5 ≠ v7) → False) ∧
((v5 = v7) → ∀ v11 : Int, v11 = v5 + (1 : Int) → (I0 [v11] [L2] ∧ μ0 [v11] [L2] < μ0 [v5] [L1]))))) ∧
((v4 ≤ v5) → (Go.Sx.L2.pTake).rel.pre [v4] [L1] ∧
(∀ v7 : Int, ∀ v8 : Int, ∀ L2 : List Int, (Go.Sx.L2.pTake).rel.post [v4] [L1] [v7, v8] [L2] → (v8 ≠ 0 → False) ∧
(v8 = 0 → ∀ L3 : List Int, L3 = List.replicate ((16 : Int)).toNat (0 : Int) → ∃ (I1 : List Int → List (List Int) → Prop) (μ1 : List Int → List (List Int) → Nat), I1 [(0 : Int)] [L2, L3] ∧
(∀ v9 : Int, ∀ L4 : List Int, ∀ L5 : List Int, I1 [v9] [L4, L5] →
 ∃ (I2 : List Int → List (List Int) → Prop) (μ2 : List Int → List (List Int) → Nat), I2 [(0 : Int)] [L4] ∧
(∀ v10 : Int, ∀ L6 : List Int, I2 [v10] [L6] →
 ((v10 < v4) → ∀ v12 : Int, v12 = (L5).getD (v10).toNat 0 → (v12 ≠ 0 → (Go.Sx.L2.pTake).rel.pre [v4] [L6] ∧
(∀ v13 : Int, ∀ v14 : Int, ∀ L7 : List Int, (Go.Sx.L2.pTake).rel.post [v4] [L6] [v13, v14] [L7] → ∀ v15 : Int, v15 = b2i (v14 == 0) → (v15 ≠ 0 → False) ∧
(v15 = 0 → ((v10 ≠ v13) → False) ∧
((v10 = v13) → ∀ v17 : Int, v17 = v10 + (1 : Int) → (I2 [v17] [L7] ∧ μ2 [v17] [L7] < μ2 [v10] [L6]))))) ∧
(v12 = 0 → ∀ v13 : Int, v13 = v10 + (1 : Int) → (I2 [v13] [L6] ∧ μ2 [v13] [L6] < μ2 [v10] [L6]))) ∧
((v4 ≤ v10) → (Go.Sx.L2.pFree).rel.pre [v4] [L6] ∧
(∀ v12 : Int, ∀ v13 : Int, ∀ L7 : List Int, (Go.Sx.L2.pFree).rel.post [v4] [L6] [v12, v13] [L7] → ((v12 = (0 : Int)) → (Go.Sx.L2.pBits).rel.pre [v4] [L6] ∧
(∀ v15 : Int, (Go.Sx.L2.pBits).rel.post [v4] [L6] [v15] [] → ∀ v16 : Int, v16 = b2i (v15 == (0 : Int)) → (v16 ≠ (0 : Int)) ∧ Q [] [])) ∧
((v12 ≠ (0 : Int)) → False))))))))))) := by kernel_rfl
set_option maxHeartbeats 4000000 in
theorem poolLeast_holds_n0 : (lawSpec L2.f_messuagelaw2_PoolLeast [.one (.i .i64), .nil]).Holds Tryz.prog L2.ro := FSpec.holdsV (cfg := withS (L2.cfgB Tryz.prog) [L2.pTake, L2.pLet, L2.pFree, L2.pBits]) [{ f := L2.f_messuagelaw2_PoolLeast, reg := 7, ints := [(7, 0, 16)], lists := [(6, [0], some (0, 7))] }, { f := L2.f_messuagelaw2_PoolLeast, reg := 17, ints := [(13, 0, 20)], lists := [(6, [0], some (0, 7)), (12, [], some (0, 1))], maps := [(12, .i64, .b)] }, { f := L2.f_messuagelaw2_PoolLeast, reg := 25, ints := [(17, 0, 16)], lists := [(6, [0], some (0, 7))] }] 20 200 (withS_ok cfgB_ok ⟨pTake_holds, pLet_holds, pFree_holds, pBits_holds, trivial⟩) mixed (t := PoolLeast_n_t) PoolLeast_n_tree (by
  show ∀ (v0 : Int) , _
  intro v0  hp hr hl
  replace hr : ((-9223372036854775808 : Int) ≤ v0 ∧ v0 ≤ (9223372036854775807 : Int)) ∧ True := hr
  replace hp : True := hp
  show PoolLeast_n_t.dn ⟨_, []⟩ 1 [v0] 0 []
  rw [PoolLeast_n_vc]
  show ((L2.yes L2.f_messuagelaw2_begun).rel.pre [] [] ∧ _)
  refine ⟨trivial, fun _ => ?_⟩
  intro a1 e1 a2 e2 a3 e3 a4 e4 L1 eL
  have q3 := tmodR (x := v0) (m := 16) (by omega)
  have q5 := tmodP (x := a2) (m := 16) (by omega) (by omega)
  have hn : 1 ≤ a4 ∧ a4 ≤ 16 := by omega
  clear q3 q5 e1 e2 e3 e4 hl
  obtain ⟨n, rfl⟩ : ∃ m : Nat, a4 = m := ⟨a4.toNat, by omega⟩
  rw [Int.toNat_natCast] at eL
  refine ⟨fun xs ys => match xs, ys with | [i], [L] => 0 ≤ i ∧ i ≤ (n : Int) ∧ L.length = n ∧ ∀ j : Nat, j < n → L.getD j 0 = if (j : Int) < i then 1 else 0 | _, _ => False, fun xs _ => match xs with | i :: _ => ((n : Int) - i).toNat | _ => 0, ?_, ?_⟩ <;> dsimp only
  · exact ⟨by omega, by omega, by rw [eL, List.length_replicate], fun j hj => by rw [eL, getD_repP hj, if_neg (by omega)]⟩
  · intro x L2 hI
    obtain ⟨i0, i1, hl2, hv2⟩ := hI
    obtain ⟨i, rfl⟩ : ∃ m : Nat, x = m := ⟨x.toNat, by omega⟩
    refine ⟨fun c => ⟨show (L2.length : Int) = n by omega, fun p q L3 hT y ey => ?_⟩, fun c => ⟨show (L2.length : Int) = n by omega, fun p q L3 hT => ?_⟩⟩
    · have hi0 : L2.getD i 0 = 0 := by rw [hv2 i (by omega), if_neg (by omega)]
      have hbef : ∀ j, j < i → L2.getD j 0 ≠ 0 := fun j hj => by rw [hv2 j (by omega), if_pos (by omega)]; decide
      have hT' : TakeP L2 [p, q] [L3] := hT
      clear hT
      obtain ⟨rfl, rfl, rfl⟩ := takeP_at hT' (by omega) hi0 hbef
      refine ⟨fun h => h (by rw [ey]; rfl), fun _ => ⟨fun h => h rfl, fun _ z ez => ⟨⟨by omega, by omega, by rw [List.length_set]; exact hl2, fun j hj => ?_⟩, by omega⟩⟩⟩
      rw [getD_setP (by omega)]
      by_cases h : j = i
      · rw [if_pos h, if_pos (by omega)]
      · rw [if_neg h, hv2 j hj]
        by_cases h2 : (j : Int) < i
        · rw [if_pos h2, if_pos (by omega)]
        · rw [if_neg h2, if_neg (by omega)]
    · have hN : NoP L2 := fun j hj => by rw [hv2 j (by omega), if_pos (by omega)]; decide
      have hT' : TakeP L2 [p, q] [L3] := hT
      clear hT
      obtain ⟨rfl, rfl, rfl⟩ := takeP_none hT' hN
      refine ⟨fun h => h rfl, fun _ L4 e4 => ?_⟩
      have hl4 : L4.length = 16 := by rw [e4]; rfl
      have hv4 : ∀ j : Nat, L4.getD j 0 = 0 := fun j => by rw [e4]; show (List.replicate 16 (0 : Int)).getD j 0 = 0; rw [List.getD_eq_getElem?_getD, List.getElem?_replicate]; split <;> rfl
      clear e4
      refine ⟨fun xs ys => match xs, ys with | [i], [L, H] => 0 ≤ i ∧ L.length = n ∧ H.length = 16 ∧ ∀ j : Nat, j < n → L.getD j 0 = if H.getD j 0 ≠ 0 then 0 else 1 | _, _ => False, fun xs _ => match xs with | i :: _ => ((0 : Int) - i).toNat | _ => 0, ?_, ?_⟩ <;> dsimp only
      · exact ⟨by omega, hl2, hl4, fun j hj => by rw [hv2 j hj, if_pos (by omega), hv4 j]; rfl⟩
      · intro x L5 L6 hI
        obtain ⟨k0, hl5, hl6, hv5⟩ := hI
        refine ⟨fun xs ys => match xs, ys with | [i], [L] => 0 ≤ i ∧ i ≤ (n : Int) ∧ L.length = n ∧ ∀ j : Nat, j < n → L.getD j 0 = if i ≤ (j : Int) ∧ L6.getD j 0 ≠ 0 then 0 else 1 | _, _ => False, fun xs _ => match xs with | i :: _ => ((n : Int) - i).toNat | _ => 0, ?_, ?_⟩ <;> dsimp only
        · exact ⟨by omega, by omega, hl5, fun j hj => by rw [hv5 j hj]; by_cases h : L6.getD j 0 = 0 <;> simp [h]⟩
        · intro x L7 hI
          obtain ⟨i0, i1, hl7, hv7⟩ := hI
          obtain ⟨i, rfl⟩ : ∃ m : Nat, x = m := ⟨x.toNat, by omega⟩
          refine ⟨fun c w ew => ⟨fun hw => ⟨show (L7.length : Int) = n by omega, fun p q L8 hT y ey => ?_⟩, fun hw z ez => ⟨⟨by omega, by omega, hl7, fun j hj => ?_⟩, by omega⟩⟩, fun c => ⟨show (L7.length : Int) = n by omega, fun p q L8 hF => ?_⟩⟩
          · rw [Int.toNat_natCast] at ew
            have hi0 : L7.getD i 0 = 0 := by rw [hv7 i (by omega), if_pos ⟨by omega, by rw [← ew]; exact hw⟩]
            have hbef : ∀ j, j < i → L7.getD j 0 ≠ 0 := fun j hj => by rw [hv7 j (by omega), if_neg (by omega)]; decide
            have hT' : TakeP L7 [p, q] [L8] := hT
            clear hT
            obtain ⟨rfl, rfl, rfl⟩ := takeP_at hT' (by omega) hi0 hbef
            refine ⟨fun h => h (by rw [ey]; rfl), fun _ => ⟨fun h => h rfl, fun _ z ez => ⟨⟨by omega, by omega, by rw [List.length_set]; exact hl7, fun j hj => ?_⟩, by omega⟩⟩⟩
            rw [getD_setP (by omega)]
            by_cases h : j = i
            · rw [if_pos h, if_neg (by omega)]
            · rw [if_neg h, hv7 j hj]
              by_cases h2 : (i : Int) ≤ j
              · simp only [h2, show z ≤ (j : Int) by omega]
              · simp only [h2, show ¬ z ≤ (j : Int) by omega]
          · rw [hv7 j hj]
            rw [Int.toNat_natCast] at ew
            by_cases h : j = i
            · subst h; rw [if_neg (by rw [← ew]; exact fun q => q.2 hw), if_neg (by omega)]
            · by_cases h2 : (i : Int) ≤ j
              · simp only [h2, show z ≤ (j : Int) by omega]
              · simp only [h2, show ¬ z ≤ (j : Int) by omega]
          · have hN : NoP L7 := fun j hj => by rw [hv7 j (by omega), if_neg (by omega)]; decide
            refine ⟨fun hp0 => ⟨show (L7.length : Int) = n by omega, fun y hB z ez => ?_⟩, fun h => h (hF hN)⟩
            have hy : [y] = [0] := hB hN
            obtain rfl : y = 0 := by simpa using hy
            exact ⟨by rw [ez]; decide, trivial⟩)
theorem poolLeast_holds_n : ((lawSpec L2.f_messuagelaw2_PoolLeast [.one (.i .i64), .nil]).withPre fun _ => True).Holds Tryz.prog L2.ro := holds_withPre _ poolLeast_holds_n0

theorem poolLeast_calls {H : Type} {enc : TypeId × Value → H} {W : World} {base : Nat} {args : Array Value} {ds : List (DataW H)} {p : List MemPlace} (hval : ∀ (j : Nat) t v, Tryz.f6.params[j]? = some t → args[j]? = some v → Value.okWide Tryz.prog W .any base t v)
    (hA : DataW.TrodAll enc Tryz.prog W 0 (fun _ => true) true Tryz.f6.params.toList args.toList ds p) (hL : laidMetH Tryz.prog laid1 W) : Calls Tryz.prog 6 args W fun e W' => e = .returned (.bool true) ∧ Go.Sx.Frame ⟨W, [], L2.ro⟩ W' := by
  rw [Tryz.params6] at hA hval
  obtain ⟨v0, v1, d0, d1, p0, p1, rfl, rfl, rfl, h0, h1⟩ := trodAll_two hA
  obtain ⟨n0, q0⟩ := par_int (base := 0) und3 (hval 0 3 v0 rfl rfl) h0
  rcases par_flats (base := 0) (f := 9) und30 flat3 cells3 (by decide) (hval 1 30 v1 rfl rfl) h1 with q1 | ⟨e1, q1⟩
  · exact law_calls (poolLeast_holds_n) Tryz.func6 (show Tryz.f6.body = some _ from rfl) (by kernel_rfl) (.cons q0 (.cons q1 .none)) trivial (ro_of_laid hL)
  · exact law_calls (poolLeast_holds) Tryz.func6 (show Tryz.f6.body = some _ from rfl) (by kernel_rfl) (.cons q0 (.cons q1 .none)) trivial (ro_of_laid hL)
set_option maxHeartbeats 1000000 in
theorem poolLeast_lifted (os : Os) (started : os.Started) (H : Type) (enc : TypeId × Value → H) :
    ReturnsInHanded {} Tryz.checked os 6 .any (fun w args => (Rows.poolLeastSpec.pre enc Tryz.prog Tryz.f6 [] false w args ∧ laidMetH Tryz.prog laid1 w) ∧ sizedMet enc Tryz.prog Tryz.f6 (OpenSpec.ofChange Rows.poolLeastSpec) false w args)
      (Rows.poolLeastSpec.post enc Tryz.prog Tryz.f6 false true false false) := by
  refine returnsInHanded_of_change_and (C := Tryz.checked) (X := fun w _ => laidMetH Tryz.prog laid1 w) (fun _ _ _ hh h => h.of_heap hh) Tryz.own started (by kernel_rfl) Tryz.func6
    (ChangeSpec.witness_at (enc := enc) (C := Tryz.checked) (os := os) (X := fun w _ => laidMetH Tryz.prog laid1 w) false (laidWorld os) #[.int .i64 0, .slice none 0 0] 8 rfl (by kernel_rfl) (by kernel_rfl) (by kernel_rfl) (by kernel_rfl) (by kernel_rfl) (laidWorld_met os _)) ?_
  intro W base args ds gs before hval0 hW _ _ hL _
  have hval : ∀ (j : Nat) t v, Tryz.f6.params[j]? = some t → args[j]? = some v → Value.okWide Tryz.prog W .any base t v := hval0
  have hW' := hW
  obtain ⟨p, q, hA0, hV0, rfl, hfz, hnd⟩ := hW
  have hcall := poolLeast_calls (enc := enc) hval hA0 hL
  refine Calls.mono hcall ?_
  rintro e W' ⟨rfl, hfr⟩
  exact ⟨_, rfl, post_kept Tryz.laidOut (by kernel_rfl) rfl rfl und4 hW' hfr (by
    have hg : gs = [] := by cases gs with | nil => rfl | cons g r => exact absurd hV0 (by intro h; cases h)
    subst hg
    have hA1 : DataW.TrodAll enc Tryz.prog W 0 (fun _ => true) true Tryz.f6.params.toList args.toList ds p := hA0
    rw [Tryz.params6] at hA1
    obtain ⟨v0, v1, d0, d1, p0, p1, ea, rfl, ec, h0, h1⟩ := trodAll_two hA1
    rfl)⟩

theorem poolLeast_row : Rows.PoolLeastSaid :=
  OpenClaim.holds_of_wide 6 Tryz.f6 rfl rfl rfl rfl rfl rfl rfl ⟨rfl, rfl, rfl, rfl, rfl⟩ rfl rfl rfl rfl rfl (by kernel_rfl) Tryz.func6 (restFacts.2 _ _ _ _ _ Tryz.mayEnter Tryz.liftsFinal Tryz.make (by kernel_rfl))
    (of_decide_eq_true (by kernel_rfl)) (by unfold Func.isWrapper; rw [if_neg (of_decide_eq_false (by kernel_rfl))]; exact ⟨rfl, rfl⟩)
    (fun os started H enc _ => poolLeast_lifted os started H enc)
theorem poolLeast_card : Rows.PoolLeastCardSaid :=
  Claim7.holds_tied_plain_at .later [] [.handle] true (true, "69927e01dcca4c7c2bbffabccbcc929abb28667155f79c84450e8dbe7e20a15b") true
    poolLeast_row (fun _ h => by cases h) (by kernel_rfl) (fun _ h => by cases h) poolLeast_row_tie rfl ⟨rfl, rfl⟩ Tryz.mainIs rfl
    (fun f fn hf hfn => by
      obtain rfl : f = 6 := Option.some.inj ((show Tryz.prog.funcNamed "messuage/messuagelaw2.PoolLeast" = some 6 by kernel_rfl).symm.trans hf) |>.symm
      obtain rfl : fn = Tryz.f6 := (Option.some.inj (Tryz.func6.symm.trans hfn)).symm
      exact ⟨by kernel_rfl, fun j t ht => by
        rw [Tryz.params6] at ht
        rcases j with _ | _ | j
        · obtain rfl : 3 = t := by simpa using ht
          exact (show Tryz.prog.wantsStandIn 3 = false by kernel_rfl)
        · obtain rfl : 30 = t := by simpa using ht
          exact (show Tryz.prog.wantsStandIn 30 = false by kernel_rfl)
        · simp at ht⟩)
    (by kernel_rfl)
#print axioms poolLeast_card
end Go.Proofs.YtbpilohnhhbbpabGreatDoor
