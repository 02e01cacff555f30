/- The statement messuagelaw11.EpochAck of the seat: for every input the law returns true; the condition: errors.errorType is as the program lays it. -/
import Derived.Test.YtegeplgckfpleaaGreatDoorL2B
import Derived.Test.YtegeplgckfpleaaGreatDoorSxM7
import Derived.Test.YtegeplgckfpleaaGreatDoorL2Eb
set_option linter.unusedVariables false
set_option linter.unusedSimpArgs false
open Go Go.Sx
namespace Go.Proofs.YtegeplgckfpleaaGreatDoor
open Go.ChangeShapes Go.WideShapes Go.RowKit
set_option maxRecDepth 100000

noncomputable def EpochAck_t : Tree := .call 15 (Go.Sx.L2.yes Go.Sx.L2.f_messuagelaw11_begun).rel [] [] 0 0 (.letI (.rem (.v 0) (.c 9)) (.letI (.add (.v 3) (.c 9)) (.letI (.rem (.v 4) (.c 9)) (.letI (.add (.c 1) (.v 5)) (.letI (.rem (.v 2) (.c 3)) (.letI (.add (.v 7) (.c 3)) (.letI (.rem (.v 8) (.c 3)) (.letI (.add (.c 1) (.v 9)) (.letI (.rem (.v 1) (.v 6)) (.letI (.add (.v 11) (.v 6)) (.letI (.wr .i64 (.v 12)) (.letI (.rem (.v 13) (.v 6)) (.letI (.add (.c 1) (.v 14)) (.letI (.wr .i64 (.v 15)) (.letL (.lit []) (.letL (.lit [.c (0), .c (0), .c (0), .c (0)]) (.loop [.c (0), .c (0), .c (0)] [1, 0] (.letI (.cmp .lss (.v 17) (.v 6)) (.ite (.v 20) (.need .leq (.v 18) (.c 1000) (.call 31 (Go.Sx.L2.eBegin).rel [.v 18, .v 19, .c (4), .c (0)] [3, 2] 4 1 (.letI (.add (.v 17) (.c 1)) (.again [.v 25, .v 23, .v 24] [2, 4])))) (.exit (.letI (.wr .u64 (.v 16)) (.need .leq (.v 18) (.c 1000) (.call 32 (Go.Sx.L2.eAck).rel [.v 18, .v 19, .c (4), .v 10, .v 21] [3, 2] 1 1 (.letI (.not (.v 22)) (.ite (.v 23) (.fail 180) (.loop [.c (1)] [] (.letI (.cmp .leq (.v 24) (.v 6)) (.ite (.v 25) (.call 33 (Go.Sx.L2.eWaits).rel [.v 18, .v 19, .c (4), .v 24] [3, 4] 2 1 (.letI (.cmp .leq (.v 24) (.v 16)) (.ite (.v 28) (.letI (.cmp .neq (.v 26) (.c 2)) (.ite (.v 29) (.exit (.fail 180)) (.call 34 (Go.Sx.L2.eDone).rel [.v 18, .v 19, .c (4), .v 24] [3, 4] 1 0 (.ite (.v 30) (.exit (.fail 180)) (.letI (.add (.v 24) (.c 1)) (.again [.v 31] [])))))) (.letI (.cmp .neq (.v 26) (.c 3)) (.ite (.v 29) (.exit (.fail 180)) (.call 34 (Go.Sx.L2.eDone).rel [.v 18, .v 19, .c (4), .v 24] [3, 4] 1 0 (.ite (.v 30) (.exit (.fail 180)) (.letI (.add (.v 24) (.c 1)) (.again [.v 31] []))))))))) (.exit (.call 32 (Go.Sx.L2.eAck).rel [.v 18, .v 19, .c (4), .c (1), .v 6] [3, 4] 1 1 (.call 32 (Go.Sx.L2.eAck).rel [.v 18, .v 19, .c (4), .c (2), .v 6] [3, 5] 1 1 (.call 32 (Go.Sx.L2.eAck).rel [.v 18, .v 19, .c (4), .c (3), .v 6] [3, 6] 1 1 (.call 34 (Go.Sx.L2.eDone).rel [.v 18, .v 19, .c (4), .c (1)] [3, 7] 1 0 (.ite (.v 29) (.call 34 (Go.Sx.L2.eDone).rel [.v 18, .v 19, .c (4), .v 6] [3, 7] 1 0 (.ite (.v 30) (.letI (.add (.v 6) (.c 1)) (.call 34 (Go.Sx.L2.eDone).rel [.v 18, .v 19, .c (4), .v 31] [3, 7] 1 0 (.letI (.not (.v 32)) (.ite (.v 33) (.call 34 (Go.Sx.L2.eDone).rel [.v 18, .v 19, .c (4), .c (0)] [3, 7] 1 0 (.letI (.not (.v 34)) (.need .neq (.v 35) (.c 0) (.done [] [])))) (.fail 180))))) (.fail 180))) (.fail 180)))))))))))))))))))))))))))))))))))
theorem EpochAck_tree : (lawSpec L2.f_messuagelaw11_EpochAck [.one (.i .i64), .one (.i .i64), .one (.i .i64)]).exe Tryz.prog (withS (L2.cfgB Tryz.prog) [L2.eBegin, L2.eAck, L2.eWaits, L2.eDone]) [{ f := L2.f_messuagelaw11_EpochAck, reg := 8, ints := [(9, 0, 9)], lists := [(8, [1], some (0, 18446744073709551615))], cvecs := [(8, [], 0, some (-9223372036854775808, 9223372036854775807))], cnils := [(8, [], 0, [.i .i64], L2.t_int)] }, { f := L2.f_messuagelaw11_EpochAck, reg := 14, ints := [(10, 1, 10)] }] 20 200 = EpochAck_t := by kernel_rfl
theorem EpochAck_vc (Q : List Int → List (List Int) → Prop) (v0 v1 v2 : Int) : EpochAck_t.dn ⟨Q, []⟩ 3 [v2, v1, v0] 0 [] = ((Go.Sx.L2.yes Go.Sx.L2.f_messuagelaw11_begun).rel.pre [] [] ∧
((Go.Sx.L2.yes Go.Sx.L2.f_messuagelaw11_begun).rel.post [] [] [] [] → ∀ v3 : Int, v3 = (v0).tmod (9 : Int) → ∀ v4 : Int, v4 = v3 + (9 : Int) → ∀ v5 : Int, v5 = (v4).tmod (9 : Int) → ∀ v6 : Int, v6 = (1 : Int) + v5 → ∀ v7 : Int, v7 = (v2).tmod (3 : Int) → ∀ v8 : Int, v8 = v7 + (3 : Int) → ∀ v9 : Int, v9 = (v8).tmod (3 : Int) → ∀ v10 : Int, v10 = (1 : Int) + v9 → ∀ v11 : Int, v11 = (v1).tmod v6 → ∀ v12 : Int, v12 = v11 + v6 → ∀ v13 : Int, v13 = IntKind.wrap .i64 v12 → ∀ v14 : Int, v14 = (v13).tmod v6 → ∀ v15 : Int, v15 = (1 : Int) + v14 → ∀ v16 : Int, v16 = IntKind.wrap .i64 v15 → ∀ L0 : List Int, L0 = [] → ∀ L1 : List Int, L1 = [(0 : Int), (0 : Int), (0 : Int), (0 : Int)] → ∃ (I0 : List Int → List (List Int) → Prop) (μ0 : List Int → List (List Int) → Nat), I0 [(0 : Int), (0 : Int), (0 : Int)] [L1, L0] ∧
(∀ v17 : Int, ∀ v18 : Int, ∀ v19 : Int, ∀ L2 : List Int, ∀ L3 : List Int, I0 [v17, v18, v19] [L2, L3] →
 ((v17 < v6) → (v18 ≤ (1000 : Int)) ∧ (Go.Sx.L2.eBegin).rel.pre [v18, v19, (4 : Int), (0 : Int)] [L3, L2] ∧
(∀ v21 : Int, ∀ v22 : Int, ∀ v23 : Int, ∀ v24 : Int, ∀ L4 : List Int, (Go.Sx.L2.eBegin).rel.post [v18, v19, (4 : Int), (0 : Int)] [L3, L2] [v21, v22, v23, v24] [L4] → ∀ v25 : Int, v25 = v17 + (1 : Int) → (I0 [v25, v23, v24] [L2, L4] ∧ μ0 [v25, v23, v24] [L2, L4] < μ0 [v17, v18, v19] [L2, L3]))) ∧
((v6 ≤ v17) → ∀ v21 : Int, v21 = IntKind.wrap .u64 v16 → (v18 ≤ (1000 : Int)) ∧ (Go.Sx.L2.eAck).rel.pre [v18, v19, (4 : Int), v10, v21] [L3, L2] ∧
(∀ v22 : Int, ∀ L4 : List Int, (Go.Sx.L2.eAck).rel.post [v18, v19, (4 : Int), v10, v21] [L3, L2] [v22] [L4] → ∀ v23 : Int, v23 = b2i (v22 == 0) → (v23 ≠ 0 → False) ∧
(v23 = 0 → ∃ (I1 : List Int → List (List Int) → Prop) (μ1 : List Int → List (List Int) → Nat), I1 [(1 : Int)] [] ∧
(∀ v24 : Int, I1 [v24] [] →
 ((v24 ≤ v6) → (Go.Sx.L2.eWaits).rel.pre [v18, v19, (4 : Int), v24] [L3, L4] ∧
(∀ v26 : Int, ∀ v27 : Int, ∀ L5 : List Int, (Go.Sx.L2.eWaits).rel.post [v18, v19, (4 : Int), v24] [L3, L4] [v26, v27] [L5] → ((v24 ≤ v16) → ((v26 ≠ (2 : Int)) → False) ∧
((v26 = (2 : Int)) → (Go.Sx.L2.eDone).rel.pre [v18, v19, (4 : Int), v24] [L3, L4] ∧
(∀ v30 : Int, (Go.Sx.L2.eDone).rel.post [v18, v19, (4 : Int), v24] [L3, L4] [v30] [] → (v30 ≠ 0 → False) ∧
(v30 = 0 → ∀ v31 : Int, v31 = v24 + (1 : Int) → (I1 [v31] [] ∧ μ1 [v31] [] < μ1 [v24] []))))) ∧
((v16 < v24) → ((v26 ≠ (3 : Int)) → False) ∧
((v26 = (3 : Int)) → (Go.Sx.L2.eDone).rel.pre [v18, v19, (4 : Int), v24] [L3, L4] ∧
(∀ v30 : Int, (Go.Sx.L2.eDone).rel.post [v18, v19, (4 : Int), v24] [L3, L4] [v30] [] → (v30 ≠ 0 → False) ∧
(v30 = 0 → ∀ v31 : Int, v31 = v24 + (1 : Int) → (I1 [v31] [] ∧ μ1 [v31] [] < μ1 [v24] []))))))) ∧
((v6 < v24) → (Go.Sx.L2.eAck).rel.pre [v18, v19, (4 : Int), (1 : Int), v6] [L3, L4] ∧
(∀ v26 : Int, ∀ L5 : List Int, (Go.Sx.L2.eAck).rel.post [v18, v19, (4 : Int), (1 : Int), v6] [L3, L4] [v26] [L5] → (Go.Sx.L2.eAck).rel.pre [v18, v19, (4 : Int), (2 : Int), v6] [L3, L5] ∧
(∀ v27 : Int, ∀ L6 : List Int, (Go.Sx.L2.eAck).rel.post [v18, v19, (4 : Int), (2 : Int), v6] [L3, L5] [v27] [L6] → (Go.Sx.L2.eAck).rel.pre [v18, v19, (4 : Int), (3 : Int), v6] [L3, L6] ∧
(∀ v28 : Int, ∀ L7 : List Int, (Go.Sx.L2.eAck).rel.post [v18, v19, (4 : Int), (3 : Int), v6] [L3, L6] [v28] [L7] → (Go.Sx.L2.eDone).rel.pre [v18, v19, (4 : Int), (1 : Int)] [L3, L7] ∧
(∀ v29 : Int, (Go.Sx.L2.eDone).rel.post [v18, v19, (4 : Int), (1 : Int)] [L3, L7] [v29] [] → (v29 ≠ 0 → (Go.Sx.L2.eDone).rel.pre [v18, v19, (4 : Int), v6] [L3, L7] ∧
(∀ v30 : Int, (Go.Sx.L2.eDone).rel.post [v18, v19, (4 : Int), v6] [L3, L7] [v30] [] → (v30 ≠ 0 → ∀ v31 : Int, v31 = v6 + (1 : Int) → (Go.Sx.L2.eDone).rel.pre [v18, v19, (4 : Int), v31] [L3, L7] ∧
(∀ v32 : Int, (Go.Sx.L2.eDone).rel.post [v18, v19, (4 : Int), v31] [L3, L7] [v32] [] → ∀ v33 : Int, v33 = b2i (v32 == 0) → (v33 ≠ 0 → (Go.Sx.L2.eDone).rel.pre [v18, v19, (4 : Int), (0 : Int)] [L3, L7] ∧
(∀ v34 : Int, (Go.Sx.L2.eDone).rel.post [v18, v19, (4 : Int), (0 : Int)] [L3, L7] [v34] [] → ∀ v35 : Int, v35 = b2i (v34 == 0) → (v35 ≠ (0 : Int)) ∧ Q [] [])) ∧
(v33 = 0 → False))) ∧
(v30 = 0 → False))) ∧
(v29 = 0 → False))))))))))))) := by kernel_rfl
set_option maxHeartbeats 4000000 in
theorem epochAck_holds0 : (lawSpec L2.f_messuagelaw11_EpochAck [.one (.i .i64), .one (.i .i64), .one (.i .i64)]).Holds Tryz.prog L2.ro := FSpec.holdsV (cfg := withS (L2.cfgB Tryz.prog) [L2.eBegin, L2.eAck, L2.eWaits, L2.eDone]) [{ f := L2.f_messuagelaw11_EpochAck, reg := 8, ints := [(9, 0, 9)], lists := [(8, [1], some (0, 18446744073709551615))], cvecs := [(8, [], 0, some (-9223372036854775808, 9223372036854775807))], cnils := [(8, [], 0, [.i .i64], L2.t_int)] }, { f := L2.f_messuagelaw11_EpochAck, reg := 14, ints := [(10, 1, 10)] }] 20 200 (withS_ok cfgB_ok ⟨eBegin_holds, eAck_holds, eWaits_holds, eDone_holds, trivial⟩) mixed (t := EpochAck_t) EpochAck_tree (by
  show ∀ (v0 v1 v2 : Int) , _
  intro v0 v1 v2  hp hr hl
  replace hr : ((-9223372036854775808 : Int) ≤ v0 ∧ v0 ≤ (9223372036854775807 : Int)) ∧ ((-9223372036854775808 : Int) ≤ v1 ∧ v1 ≤ (9223372036854775807 : Int)) ∧ ((-9223372036854775808 : Int) ≤ v2 ∧ v2 ≤ (9223372036854775807 : Int)) ∧ True := hr
  replace hp : True := hp
  show EpochAck_t.dn ⟨_, []⟩ 3 [v2, v1, v0] 0 []
  rw [EpochAck_vc]
  show ((L2.yes L2.f_messuagelaw11_begun).rel.pre [] [] ∧ _)
  refine ⟨trivial, fun _ => ?_⟩
  intro v3 e3 v4 e4 v5 e5 v6 e6 v7 e7 v8 e8 v9 e9 v10 e10 v11 e11 v12 e12 v13 e13 v14 e14 v15 e15 v16 e16 L0 eL0 L1 eL1
  have r3 := tmodR (x := v0) (m := 9) (by omega)
  have r5 := tmodP (x := v4) (m := 9) (by omega) (by omega)
  have r7 := tmodR (x := v2) (m := 3) (by omega)
  have r9 := tmodP (x := v8) (m := 3) (by omega) (by omega)
  have r11 := tmodR (x := v1) (m := v6) (by omega)
  have w13 := wrapI v12
  have r14 := tmodP (x := v13) (m := v6) (by omega) (by omega)
  have w16 := wrapI v15
  have n1 : 1 ≤ v6 ∧ v6 ≤ 9 := by omega
  have c1 : v10 = 1 ∨ v10 = 2 ∨ v10 = 3 := by omega
  have a1 : 1 ≤ v16 ∧ v16 ≤ v6 := by omega
  clear r3 r5 r7 r9 r11 w13 r14 w16 e3 e4 e5 e6 e7 e8 e9 e10 e11 e12 e13 e14 e15 e16 hr hp hl
  refine ⟨fun xs ys => match xs, ys with | [i, a, b], [H, O] => 0 ≤ i ∧ i ≤ v6 ∧ H = [0, 0, 0, 0] ∧ O = List.replicate i.toNat 0 ∧ a = i ∧ a ≤ b | _, _ => False, fun xs _ => match xs with | i :: _ => (v6 - i).toNat | _ => 0, ?_, ?_⟩ <;> dsimp only
  · subst eL0 eL1; exact ⟨by omega, by omega, rfl, rfl, rfl, by omega⟩
  · intro i a b H O hI
    obtain ⟨i0, i9, hH, hO, ha, hb⟩ := hI
    obtain ⟨k, rfl⟩ : ∃ k : Nat, i = k := ⟨i.toNat, by omega⟩
    rw [Int.toNat_natCast] at hO
    have hOl : O.length = k := by rw [hO]; simp
    have hHl : H.length = 4 := by rw [hH]; rfl
    refine ⟨fun q1 => ⟨by omega, ⟨by show (O.length : Int) = a; omega, hb, by show (H.length : Int) = 4; omega⟩, ?_⟩, fun q1 => ?_⟩
    · intro e ok a' b' O' hpost
      have hpost : e = (if coreOk H 0 then a + 1 else 0) ∧ ok = b2i (coreOk H 0) ∧ a' = ((begE O H 0).length : Int) ∧ a' ≤ b' ∧ [O'] = [begE O H 0] := hpost
      have hb0 := beg_ok (O := O) (H := H) (c := 0) (by omega) (by omega)
      intro j ej
      have hO' : O' = O ++ [0] := by have := hpost.2.2.2.2; rw [hb0.2] at this; simpa using this
      have ha' := hpost.2.2.1
      rw [hb0.2, List.length_append, List.length_singleton] at ha'
      refine ⟨⟨by omega, by omega, hH, ?_, by omega, hpost.2.2.2.1⟩, by omega⟩
      rw [hO', hO, ej, show ((k : Int) + 1).toNat = k + 1 by omega, List.replicate_succ']
    · have hk : (k : Int) = v6 := by omega
      intro v21 e21
      have hv21 : v21 = v16 := by rw [e21, wrapU]; omega
      refine ⟨by omega, ⟨by show (O.length : Int) = a; omega, hb, by show (H.length : Int) = 4; omega⟩, ?_⟩
      intro ok H1 hA
      have hA : [ok] = [b2i (ackOk O H v10 v21)] ∧ [H1] = [ackE O H v10 v21] := hA
      have hk1 := ack_ok (O := O) (H := H) (c := v10) (n := v21) (by omega) (by omega) (by omega) (by omega)
      have hok : ok = 1 := by have := hA.1; rw [hk1.1] at this; simpa [b2i] using this
      have hH1 : H1 = H.set v10.toNat (if H.getD v10.toNat 0 < v21 then v21 else H.getD v10.toNat 0) := by have := hA.2; rw [hk1.2] at this; simpa using this
      have hO0 : ∀ x : Int, O.getD x.toNat 0 = 0 := by intro x; rw [hO, List.getD_eq_getElem?_getD, List.getElem?_replicate]; split <;> rfl
      -- what is heard of: three numbers
      obtain ⟨h1, h2, h3, hHH, hcase⟩ : ∃ h1 h2 h3 : Int, H1 = [0, h1, h2, h3] ∧ ((h1 = v16 ∧ h2 = 0 ∧ h3 = 0) ∨ (h1 = 0 ∧ h2 = v16 ∧ h3 = 0) ∨ (h1 = 0 ∧ h2 = 0 ∧ h3 = v16)) := by
        rw [hH] at hH1
        rcases c1 with c | c | c <;> subst c
        · refine ⟨v16, 0, 0, ?_, .inl ⟨rfl, rfl, rfl⟩⟩
          rw [hH1]; simp [hv21]; omega
        · refine ⟨0, v16, 0, ?_, .inr (.inl ⟨rfl, rfl, rfl⟩)⟩
          rw [hH1]; simp [hv21]; omega
        · refine ⟨0, 0, v16, ?_, .inr (.inr ⟨rfl, rfl, rfl⟩)⟩
          rw [hH1]; simp [hv21]; omega
      have hpre : ∀ {H' : List Int}, H'.length = 4 → ((O.length : Int) = a ∧ a ≤ b ∧ ((H'.length : Int)) = 4) := fun h => ⟨by omega, hb, by omega⟩
      intro z ez
      have hz : z = 0 := by rw [ez, hok]; rfl
      refine ⟨fun c => c hz, fun _ => ?_⟩
      refine ⟨fun xs _ => match xs with | [i] => 1 ≤ i ∧ i ≤ v6 + 1 | _ => False, fun xs _ => match xs with | i :: _ => (v6 + 1 - i).toNat | _ => 0, ?_, ?_⟩ <;> dsimp only
      · omega
      · intro i hi
        have hl1 : H1.length = 4 := by rw [hHH]; rfl
        refine ⟨fun q2 => ⟨hpre hl1, ?_⟩, fun q2 => ⟨hpre hl1, ?_⟩⟩
        · intro n c W hW
          have hW : n = ((waitsE O H1 i).length : Int) ∧ n ≤ c ∧ [W] = [waitsE O H1 i] := hW
          have hep : epOk O i = true := epOk_ok (by omega) (by omega)
          have hwt := wt4 (h0 := 0) (h1 := h1) (h2 := h2) (h3 := h3) hep (hO0 (i - 1))
          rw [← hHH] at hwt
          have hlen : (i ≤ v16 → (waitsE O H1 i).length = 2) ∧ (v16 < i → (waitsE O H1 i).length = 3) := by
            rw [hwt]
            rcases hcase with ⟨rfl, rfl, rfl⟩ | ⟨rfl, rfl, rfl⟩ | ⟨rfl, rfl, rfl⟩ <;> refine ⟨fun q => ?_, fun q => ?_⟩ <;> (repeat' split) <;> first | rfl | (exfalso; omega)
          have hdone : ∀ d : Int, (L2.eDone).rel.post [a, b, (4 : Int), i] [O, H1] [d] [] → d = 0 := by
            intro d hd
            have hd : [d] = [b2i (epOk O i && decide (waitsE O H1 i = []))] ∧ ([] : List (List Int)) = [] := hd
            have hne : waitsE O H1 i ≠ [] := by
              intro c
              rw [c] at hlen
              by_cases q : i ≤ v16
              · have := hlen.1 q; simp at this
              · have := hlen.2 (by omega); simp at this
            have := hd.1
            simpa [hne, b2i] using this
          refine ⟨fun q3 => ⟨fun q4 => ?_, fun q4 => ⟨hpre hl1, fun d hd => ⟨fun q5 => q5 (hdone d hd), fun _ => ?_⟩⟩⟩, fun q3 => ⟨fun q4 => ?_, fun q4 => ⟨hpre hl1, fun d hd => ⟨fun q5 => q5 (hdone d hd), fun _ => ?_⟩⟩⟩⟩
          · have := hlen.1 q3; omega
          · intro j ej; omega
          · have := hlen.2 q3; omega
          · intro j ej; omega
        · -- all have heard
          have step : ∀ (g1 g2 g3 c : Int) (ok : Int) (H' : List Int), (c = 1 ∨ c = 2 ∨ c = 3) → g1 ≤ v6 → g2 ≤ v6 → g3 ≤ v6 → (L2.eAck).rel.post [a, b, (4 : Int), c, v6] [O, [0, g1, g2, g3]] [ok] [H'] →
              H' = [0, if c = 1 then v6 else g1, if c = 2 then v6 else g2, if c = 3 then v6 else g3] := by
            intro g1 g2 g3 c ok H' hc b1 b2 b3 hp
            have hp : [ok] = [b2i (ackOk O [0, g1, g2, g3] c v6)] ∧ [H'] = [ackE O [0, g1, g2, g3] c v6] := hp
            have hk1 := ack_ok (O := O) (H := [0, g1, g2, g3]) (c := c) (n := v6) (by omega) (by simp; omega) (by omega) (by omega)
            have := hp.2
            rw [hk1.2] at this
            rcases hc with rfl | rfl | rfl <;> simp at this <;> rw [this] <;> simp <;> omega
          intro ok1 G1 p1
          rw [hHH] at p1
          have g1 := step h1 h2 h3 1 ok1 G1 (.inl rfl) (by omega) (by omega) (by omega) p1
          simp at g1
          refine ⟨hpre (by rw [g1]; rfl), ?_⟩
          intro ok2 G2 p2
          rw [g1] at p2
          have g2 := step v6 h2 h3 2 ok2 G2 (.inr (.inl rfl)) (by omega) (by omega) (by omega) p2
          simp at g2
          refine ⟨hpre (by rw [g2]; rfl), ?_⟩
          intro ok3 G3 p3
          rw [g2] at p3
          have g3 := step v6 v6 h3 3 ok3 G3 (.inr (.inr rfl)) (by omega) (by omega) (by omega) p3
          simp at g3
          have hl3 : G3.length = 4 := by rw [g3]; rfl
          have yes : ∀ n d : Int, 1 ≤ n → n ≤ v6 → (L2.eDone).rel.post [a, b, (4 : Int), n] [O, G3] [d] [] → d = 1 := by
            intro n d n1 n2 hd
            have hd : [d] = [b2i (epOk O n && decide (waitsE O G3 n = []))] ∧ ([] : List (List Int)) = [] := hd
            have hep : epOk O n = true := epOk_ok (by omega) (by omega)
            have hwt := wt4 (h0 := 0) (h1 := v6) (h2 := v6) (h3 := v6) hep (hO0 (n - 1))
            rw [← g3, if_neg (by omega), if_neg (by omega), if_neg (by omega)] at hwt
            have := hd.1
            rw [hwt, hep] at this
            simpa [b2i] using this
          have no : ∀ n d : Int, (n < 1 ∨ v6 < n) → (L2.eDone).rel.post [a, b, (4 : Int), n] [O, G3] [d] [] → d = 0 := by
            intro n d hn hd
            have hd : [d] = [b2i (epOk O n && decide (waitsE O G3 n = []))] ∧ ([] : List (List Int)) = [] := hd
            have hep : epOk O n = false := epOk_no (by omega)
            have := hd.1
            rw [hep] at this
            simpa [b2i] using this
          refine ⟨hpre hl3, fun d1 q3 => ?_⟩
          have y1 := yes 1 d1 (by omega) (by omega) q3
          refine ⟨fun _ => ⟨hpre hl3, fun d2 q4 => ?_⟩, fun c => by omega⟩
          have y2 := yes v6 d2 (by omega) (by omega) q4
          refine ⟨fun _ => ?_, fun c => by omega⟩
          intro m em
          refine ⟨hpre hl3, fun d3 q5 => ?_⟩
          have y3 := no m d3 (by omega) q5
          intro z3 ez3
          have hz3 : z3 = 1 := by rw [ez3, y3]; rfl
          refine ⟨fun _ => ⟨hpre hl3, fun d4 q6 => ?_⟩, fun c => by omega⟩
          have y4 := no 0 d4 (by omega) q6
          intro z4 ez4
          have hz4 : z4 = 1 := by rw [ez4, y4]; rfl
          exact ⟨by omega, trivial⟩)
theorem epochAck_holds : ((lawSpec L2.f_messuagelaw11_EpochAck [.one (.i .i64), .one (.i .i64), .one (.i .i64)]).withPre fun _ => True).Holds Tryz.prog L2.ro := holds_withPre _ epochAck_holds0

theorem epochAck_calls {H : Type} {enc : TypeId × Value → H} {W : World} {base : Nat} {args : Array Value} {ds : List (DataW H)} {p : List MemPlace} (hval : ∀ (j : Nat) t v, Tryz.f5.params[j]? = some t → args[j]? = some v → Value.okWide Tryz.prog W .any base t v)
    (hA : DataW.TrodAll enc Tryz.prog W 0 (fun _ => true) true Tryz.f5.params.toList args.toList ds p) (hL : laidMetH Tryz.prog laid1 W) : Calls Tryz.prog 5 args W fun e W' => e = .returned (.bool true) ∧ Go.Sx.Frame ⟨W, [], L2.ro⟩ W' := by
  rw [Tryz.params5] at hA hval
  obtain ⟨v0, v1, v2, d0, d1, d2, p0, p1, p2, rfl, rfl, rfl, h0, h1, h2⟩ := trodAll_three hA
  obtain ⟨n0, q0⟩ := par_int (base := 0) und3 (hval 0 3 v0 rfl rfl) h0
  obtain ⟨n1, q1⟩ := par_int (base := 0) und3 (hval 1 3 v1 rfl rfl) h1
  obtain ⟨n2, q2⟩ := par_int (base := 0) und3 (hval 2 3 v2 rfl rfl) h2
  exact law_calls (epochAck_holds) Tryz.func5 (show Tryz.f5.body = some _ from rfl) (by kernel_rfl) (.cons q0 (.cons q1 (.cons q2 .none))) trivial (ro_of_laid hL)
set_option maxHeartbeats 1000000 in
theorem epochAck_lifted (os : Os) (started : os.Started) (H : Type) (enc : TypeId × Value → H) :
    ReturnsInHanded {} Tryz.checked os 5 .any (fun w args => (Rows.epochAckSpec.pre enc Tryz.prog Tryz.f5 [] false w args ∧ laidMetH Tryz.prog laid1 w) ∧ sizedMet enc Tryz.prog Tryz.f5 (OpenSpec.ofChange Rows.epochAckSpec) false w args)
      (Rows.epochAckSpec.post enc Tryz.prog Tryz.f5 false true false false) := by
  refine returnsInHanded_of_change_and (C := Tryz.checked) (X := fun w _ => laidMetH Tryz.prog laid1 w) (fun _ _ _ hh h => h.of_heap hh) Tryz.own started (by kernel_rfl) Tryz.func5
    (ChangeSpec.witness_at (enc := enc) (C := Tryz.checked) (os := os) (X := fun w _ => laidMetH Tryz.prog laid1 w) false (laidWorld os) #[.int .i64 0, .int .i64 0, .int .i64 0] 8 rfl (by kernel_rfl) (by kernel_rfl) (by kernel_rfl) (by kernel_rfl) (by kernel_rfl) (laidWorld_met os _)) ?_
  intro W base args ds gs before hval0 hW _ _ hL _
  have hval : ∀ (j : Nat) t v, Tryz.f5.params[j]? = some t → args[j]? = some v → Value.okWide Tryz.prog W .any base t v := hval0
  have hW' := hW
  obtain ⟨p, q, hA0, hV0, rfl, hfz, hnd⟩ := hW
  have hcall := epochAck_calls (enc := enc) hval hA0 hL
  refine Calls.mono hcall ?_
  rintro e W' ⟨rfl, hfr⟩
  exact ⟨_, rfl, post_kept Tryz.laidOut (by kernel_rfl) rfl rfl und4 hW' hfr (by
    have hg : gs = [] := by cases gs with | nil => rfl | cons g r => exact absurd hV0 (by intro h; cases h)
    subst hg
    have hA1 : DataW.TrodAll enc Tryz.prog W 0 (fun _ => true) true Tryz.f5.params.toList args.toList ds p := hA0
    rw [Tryz.params5] at hA1
    obtain ⟨v0, v1, v2, d0, d1, d2, p0, p1, p2, ea, rfl, ec, h0, h1, h2⟩ := trodAll_three hA1
    rfl)⟩

theorem epochAck_row : Rows.EpochAckSaid :=
  OpenClaim.holds_of_wide 5 Tryz.f5 rfl rfl rfl rfl rfl rfl rfl ⟨rfl, rfl, rfl, rfl, rfl⟩ rfl rfl rfl rfl rfl (by kernel_rfl) Tryz.func5 (restFacts.2 _ _ _ _ _ Tryz.mayEnter Tryz.liftsFinal Tryz.make (by kernel_rfl))
    (of_decide_eq_true (by kernel_rfl)) (by unfold Func.isWrapper; rw [if_neg (of_decide_eq_false (by kernel_rfl))]; exact ⟨rfl, rfl⟩)
    (fun os started H enc _ => epochAck_lifted os started H enc)
theorem epochAck_card : Rows.EpochAckCardSaid :=
  Claim7.holds_tied_plain_at .later [] [.handle] true (true, "2b6aa8c52f26a36866b589049fd1d65802bdae42632cc16d24d227b9428605b6") true
    epochAck_row (fun _ h => by cases h) (by kernel_rfl) (fun _ h => by cases h) epochAck_row_tie rfl ⟨rfl, rfl⟩ Tryz.mainIs rfl
    (fun f fn hf hfn => by
      obtain rfl : f = 5 := Option.some.inj ((show Tryz.prog.funcNamed "messuage/messuagelaw11.EpochAck" = some 5 by kernel_rfl).symm.trans hf) |>.symm
      obtain rfl : fn = Tryz.f5 := (Option.some.inj (Tryz.func5.symm.trans hfn)).symm
      exact ⟨by kernel_rfl, fun j t ht => by
        rw [Tryz.params5] at ht
        rcases j with _ | _ | _ | j
        · obtain rfl : 3 = t := by simpa using ht
          exact (show Tryz.prog.wantsStandIn 3 = false by kernel_rfl)
        · obtain rfl : 3 = t := by simpa using ht
          exact (show Tryz.prog.wantsStandIn 3 = false by kernel_rfl)
        · obtain rfl : 3 = t := by simpa using ht
          exact (show Tryz.prog.wantsStandIn 3 = false by kernel_rfl)
        · simp at ht⟩)
    (by kernel_rfl)
#print axioms epochAck_card
end Go.Proofs.YtegeplgckfpleaaGreatDoor
