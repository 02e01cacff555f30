/- Contract: a tree as the document's. -/
import Derived.Test.YtpmgfdakljjlaaaGreatDoorL2Ca
import Derived.Test.YtpmgfdakljjlaaaGreatDoorL2Cb
import Derived.Test.YtpmgfdakljjlaaaGreatDoorL2Qc
set_option linter.unusedVariables false
set_option linter.constructorNameAsVariable false
set_option linter.unusedSimpArgs false
open Go Go.Sx
namespace Go.Proofs.YtpmgfdakljjlaaaGreatDoor
set_option maxRecDepth 100000
theorem qh_ok : (withS (L2.cfg Tryz.prog) [L2.cAt, L2.cOf, L2.rRefs]).Ok Tryz.prog := withS_ok cfg_ok ⟨cAt_holds, cOf_holds, rRefs_holds, trivial⟩
noncomputable def lSame_t : Tree := .loop [.c (0)] [] (.letI (.cmp .lss (.v 2) (.v 0)) (.ite (.v 3) (.loop [.c (0)] [] (.letI (.cmp .lss (.v 4) (.c 8)) (.ite (.v 5) (.call 64 (Go.Sx.L2.cAt).rel [.v 0, .v 1, .v 2, .v 4] [0] 5 0 (.letI (.mul (.v 2) (.c 40)) (.letI (.add (.c 3) (.v 11)) (.letI (.mul (.v 4) (.c 5)) (.letI (.add (.v 12) (.v 13)) (.letI (.get 1 (.v 14)) (.letI (.add (.v 14) (.c 1)) (.letI (.get 1 (.v 16)) (.letI (.add (.v 14) (.c 2)) (.letI (.get 1 (.v 18)) (.letI (.add (.v 14) (.c 3)) (.letI (.get 1 (.v 20)) (.letI (.add (.v 14) (.c 4)) (.letI (.get 1 (.v 22)) (.letI (.not (.v 10)) (.letI (.not (.v 15)) (.letI (.cmp .neq (.v 24) (.v 25)) (.ite (.v 26) (.exit (.exit (.fail 180))) (.ite (.v 10) (.letI (.cmp .neq (.v 6) (.v 17)) (.ite (.v 27) (.exit (.exit (.fail 180))) (.letI (.cmp .neq (.v 7) (.v 19)) (.ite (.v 28) (.exit (.exit (.fail 180))) (.letI (.cmp .lss (.v 8) (.c 0)) (.letI (.cmp .lss (.v 21) (.c 0)) (.letI (.not (.v 29)) (.letI (.not (.v 30)) (.letI (.cmp .neq (.v 31) (.v 32)) (.ite (.v 33) (.exit (.exit (.fail 180))) (.letI (.cmp .leq (.c 0) (.v 21)) (.ite (.v 34) (.letI (.cmp .neq (.v 8) (.v 21)) (.ite (.v 35) (.exit (.exit (.fail 180))) (.letI (.cmp .neq (.v 9) (.v 23)) (.ite (.v 36) (.exit (.exit (.fail 180))) (.letI (.add (.v 4) (.c 1)) (.again [.v 37] [])))))) (.letI (.add (.v 4) (.c 1)) (.again [.v 35] [])))))))))))))) (.letI (.add (.v 4) (.c 1)) (.again [.v 27] []))))))))))))))))))))) (.exit (.letI (.add (.v 2) (.c 1)) (.again [.v 6] [])))))) (.exit (.loop [.c (0)] [] (.letI (.cmp .lss (.v 4) (.c 4)) (.ite (.v 5) (.call 65 (Go.Sx.L2.cOf).rel [.v 0, .v 1, .v 4] [0] 4 1 (.letI (.pick (.v 7) (.v 6) (.c 0)) (.call 66 (Go.Sx.L2.rRefs).rel [.v 4] [1] 1 0 (.letI (.cmp .neq (.v 10) (.v 11)) (.ite (.v 12) (.exit (.fail 180)) (.letI (.add (.v 4) (.c 1)) (.again [.v 13] []))))))) (.exit (.done [] []))))))))
theorem lSame_tree : (L2.lSame).exe Tryz.prog (withS (L2.cfg Tryz.prog) [L2.cAt, L2.cOf, L2.rRefs]) [{ f := L2.f_messuagelaw11_same, reg := 2, ints := [(7, 0, 4)] }, { f := L2.f_messuagelaw11_same, reg := 5, ints := [(8, 0, 8)] }, { f := L2.f_messuagelaw11_same, reg := 12, ints := [(12, 0, 4)] }] 20 200 = lSame_t := by kernel_rfl
theorem lSame_vc (Q : List Int → List (List Int) → Prop) (v0 v1 : Int) (L0 L1 : List Int) : lSame_t.dn ⟨Q, []⟩ 2 [v1, v0] 2 [L1, L0] = (∃ (I0 : List Int → List (List Int) → Prop) (μ0 : List Int → List (List Int) → Nat), I0 [(0 : Int)] [] ∧
(∀ v2 : Int, I0 [v2] [] →
 ((v2 < v0) → ∃ (I1 : List Int → List (List Int) → Prop) (μ1 : List Int → List (List Int) → Nat), I1 [(0 : Int)] [] ∧
(∀ v4 : Int, I1 [v4] [] →
 ((v4 < (8 : Int)) → (Go.Sx.L2.cAt).rel.pre [v0, v1, v2, v4] [L0] ∧
(∀ v6 : Int, ∀ v7 : Int, ∀ v8 : Int, ∀ v9 : Int, ∀ v10 : Int, (Go.Sx.L2.cAt).rel.post [v0, v1, v2, v4] [L0] [v6, v7, v8, v9, v10] [] → ∀ v11 : Int, v11 = v2 * (40 : Int) → ∀ v12 : Int, v12 = (3 : Int) + v11 → ∀ v13 : Int, v13 = v4 * (5 : Int) → ∀ v14 : Int, v14 = v12 + v13 → ∀ v15 : Int, v15 = (L1).getD (v14).toNat 0 → ∀ v16 : Int, v16 = v14 + (1 : Int) → ∀ v17 : Int, v17 = (L1).getD (v16).toNat 0 → ∀ v18 : Int, v18 = v14 + (2 : Int) → ∀ v19 : Int, v19 = (L1).getD (v18).toNat 0 → ∀ v20 : Int, v20 = v14 + (3 : Int) → ∀ v21 : Int, v21 = (L1).getD (v20).toNat 0 → ∀ v22 : Int, v22 = v14 + (4 : Int) → ∀ v23 : Int, v23 = (L1).getD (v22).toNat 0 → ∀ v24 : Int, v24 = b2i (v10 == 0) → ∀ v25 : Int, v25 = b2i (v15 == 0) → ((v24 ≠ v25) → False) ∧
((v24 = v25) → (v10 ≠ 0 → ((v6 ≠ v17) → False) ∧
((v6 = v17) → ((v7 ≠ v19) → False) ∧
((v7 = v19) → ∀ v29 : Int, v29 = b2i (decide (v8 < (0 : Int))) → ∀ v30 : Int, v30 = b2i (decide (v21 < (0 : Int))) → ∀ v31 : Int, v31 = b2i (v29 == 0) → ∀ v32 : Int, v32 = b2i (v30 == 0) → ((v31 ≠ v32) → False) ∧
((v31 = v32) → (((0 : Int) ≤ v21) → ((v8 ≠ v21) → False) ∧
((v8 = v21) → ((v9 ≠ v23) → False) ∧
((v9 = v23) → ∀ v37 : Int, v37 = v4 + (1 : Int) → (I1 [v37] [] ∧ μ1 [v37] [] < μ1 [v4] [])))) ∧
((v21 < (0 : Int)) → ∀ v35 : Int, v35 = v4 + (1 : Int) → (I1 [v35] [] ∧ μ1 [v35] [] < μ1 [v4] [])))))) ∧
(v10 = 0 → ∀ v27 : Int, v27 = v4 + (1 : Int) → (I1 [v27] [] ∧ μ1 [v27] [] < μ1 [v4] []))))) ∧
(((8 : Int) ≤ v4) → ∀ v6 : Int, v6 = v2 + (1 : Int) → (I0 [v6] [] ∧ μ0 [v6] [] < μ0 [v2] [])))) ∧
((v0 ≤ v2) → ∃ (I1 : List Int → List (List Int) → Prop) (μ1 : List Int → List (List Int) → Nat), I1 [(0 : Int)] [] ∧
(∀ v4 : Int, I1 [v4] [] →
 ((v4 < (4 : Int)) → (Go.Sx.L2.cOf).rel.pre [v0, v1, v4] [L0] ∧
(∀ v6 : Int, ∀ v7 : Int, ∀ v8 : Int, ∀ v9 : Int, ∀ L2 : List Int, (Go.Sx.L2.cOf).rel.post [v0, v1, v4] [L0] [v6, v7, v8, v9] [L2] → ∀ v10 : Int, v10 = (if v7 = 0 then (0 : Int) else v6) → (Go.Sx.L2.rRefs).rel.pre [v4] [L1] ∧
(∀ v11 : Int, (Go.Sx.L2.rRefs).rel.post [v4] [L1] [v11] [] → ((v10 ≠ v11) → False) ∧
((v10 = v11) → ∀ v13 : Int, v13 = v4 + (1 : Int) → (I1 [v13] [] ∧ μ1 [v13] [] < μ1 [v4] []))))) ∧
(((4 : Int) ≤ v4) → Q [] []))))) := by kernel_rfl
set_option maxHeartbeats 4000000 in
theorem lSame_holds : (L2.lSame).Holds Tryz.prog L2.ro := FSpec.holdsV (cfg := withS (L2.cfg Tryz.prog) [L2.cAt, L2.cOf, L2.rRefs]) [{ f := L2.f_messuagelaw11_same, reg := 2, ints := [(7, 0, 4)] }, { f := L2.f_messuagelaw11_same, reg := 5, ints := [(8, 0, 8)] }, { f := L2.f_messuagelaw11_same, reg := 12, ints := [(12, 0, 4)] }] 20 200 qh_ok mixed (t := lSame_t) lSame_tree (by
  show ∀ (v0 v1 : Int) (L0 L1 : List Int), _
  intro v0 v1 L0 L1 hp hr hl
  replace hr : (((1) : Int) ≤ v0 ∧ v0 ≤ ((4) : Int)) ∧ (((32) : Int) ≤ v1 ∧ v1 ≤ ((128) : Int)) ∧ True := hr
  replace hl : (∀ x ∈ L0, (((-9223372036854775808) : Int) ≤ x ∧ x ≤ ((9223372036854775807) : Int))) ∧ (∀ x ∈ L1, (((-9223372036854775808) : Int) ≤ x ∧ x ≤ ((18446744073709551615) : Int))) ∧ True := hl
  show lSame_t.dn ⟨_, []⟩ 2 [v1, v0] 2 [L1, L0]
  rw [lSame_vc]
  obtain ⟨⟨h1, hcv⟩, hk⟩ := hp
  have h1 : v1 = v0 * 32 := h1
  have hcv : CV v0 L0 := hcv
  have hk : KT L0 L1 := hk
  clear hl
  refine ⟨fun xs _ => match xs with | [i] => 0 ≤ i | _ => False, fun xs _ => match xs with | i :: _ => (4 - i).toNat | _ => 0, ?_, ?_⟩ <;> dsimp only
  · omega
  · intro i i0
    refine ⟨fun c => ?_, fun c => ?_⟩
    · refine ⟨fun xs _ => match xs with | [j] => 0 ≤ j | _ => False, fun xs _ => match xs with | j :: _ => (8 - j).toNat | _ => 0, ?_, ?_⟩ <;> dsimp only
      · omega
      · intro j j0
        refine ⟨fun d => ⟨h1, fun f r e s b q x1 e1 x2 e2 x3 e3 k ek w0 f0 y1 g1 w1 f1 y2 g2 w2 f2 y3 g3 w3 f3 y4 g4 w4 f4 z1 m1 z2 m2 => ?_⟩, fun d j' ej => ⟨by omega, by omega⟩⟩
        rw [g1] at f1
        rw [g2] at f2
        rw [g3] at f3
        rw [g4] at f4
        have rd := hk.rd (a := i) (b := j) (i := k) (by omega) (by omega) (by omega) (by omega) (by omega)
        rw [← f0, ← f1, ← f2, ← f3, ← f4] at rd
        obtain ⟨r0, r1, r2, r3, r4⟩ := rd
        have hpl : plOk v0 i j = true := by simp [plOk]; omega
        have q0 : [f, r, e, s, b] = [capV v0 L0 i j 0, capV v0 L0 i j 1, capV v0 L0 i j 2, capV v0 L0 i j 3, b2i (capOk v0 L0 i j)] := q.1
        simp only [List.cons.injEq, and_true] at q0
        obtain ⟨q0, q1, q2, q3, q4⟩ := q0
        have hok : capOk v0 L0 i j = decide (cG L0 i j 1 ≠ 0) := by unfold capOk; rw [hpl]; simp
        have hb : b = w0 := by rw [q4, hok, r0]
        have hv : b ≠ 0 → f = w1 ∧ r = w2 ∧ e = w3 ∧ s = w4 := fun h => by
          have ho : capOk v0 L0 i j = true := by
            cases h' : capOk v0 L0 i j with
            | true => rfl
            | false => rw [h'] at q4; exact absurd q4 h
          unfold capV at q0 q1 q2 q3
          rw [if_pos ho] at q0 q1 q2 q3
          exact ⟨by rw [q0, r1], by rw [q1, r2], by rw [q2, r3], by rw [q3, r4]⟩
        have hz : z1 = z2 := by rw [m1, m2, hb]
        refine ⟨fun z => z hz, fun _ => ⟨fun z => ?_, fun z j' ej => ⟨by omega, by omega⟩⟩⟩
        obtain ⟨a1, a2, a3, a4⟩ := hv z
        refine ⟨fun z => z a1, fun _ => ⟨fun z => z a2, fun _ u1 n1 u2 n2 u3 n3 u4 n4 => ⟨fun z => z (by rw [n3, n4, n1, n2, a3]), fun _ => ⟨fun _ => ⟨fun z => z a3, fun _ => ⟨fun z => z a4, fun _ j' ej => ⟨by omega, by omega⟩⟩⟩, fun _ j' ej => ⟨by omega, by omega⟩⟩⟩⟩⟩
    · refine ⟨fun xs _ => match xs with | [j] => 0 ≤ j | _ => False, fun xs _ => match xs with | j :: _ => (4 - j).toNat | _ => 0, ?_, ?_⟩ <;> dsimp only
      · omega
      · intro j j0
        refine ⟨fun d => ⟨h1, fun a b c' e L2 q x ex => ⟨trivial, fun y qy => ?_⟩⟩, fun d => ⟨rfl, rfl⟩⟩
        have q1 : a * 2 = ((ofL v0 L0 j).length : Int) := q.1
        have q2 : a ≤ b := q.2.1
        have qy : ∀ T, KT T L1 → y * 2 = ((selC (qOf T j) 4).length : Int) := qy
        have hy := qy L0 hk
        have hsel : selC (qOf L0 j) 4 = ofL v0 L0 j := by
          unfold ofL
          exact selC_four hcv (by omega) fun a b a0 b0 ha => by
            unfold qOf at ha
            simp only [Bool.and_eq_true, decide_eq_true_eq] at ha
            exact hcv.inn a0 b0 (k := 1) (by omega) ha.1
        rw [hsel] at hy
        have : x = y := by rw [ex]; split <;> omega
        exact ⟨fun z => z this, fun _ j' ej => ⟨by omega, by omega⟩⟩)
end Go.Proofs.YtpmgfdakljjlaaaGreatDoor
