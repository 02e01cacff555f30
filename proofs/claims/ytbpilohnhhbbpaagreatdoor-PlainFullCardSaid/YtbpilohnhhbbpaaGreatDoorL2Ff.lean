/- Contracts: calls of PlainFull. -/
import Derived.Test.YtbpilohnhhbbpaaGreatDoorL2Facts
import Derived.Test.YtbpilohnhhbbpaaGreatDoorSxM7
import Derived.Test.YtbpilohnhhbbpaaGreatDoorPuAlt
import Derived.Test.YtbpilohnhhbbpaaGreatDoorL2F
import Derived.Test.YtbpilohnhhbbpaaGreatDoorL2Kw
import Derived.Test.YtbpilohnhhbbpaaGreatDoorL2Cr
import Derived.Test.YtbpilohnhhbbpaaGreatDoorL2Cd
import Derived.Test.YtbpilohnhhbbpaaGreatDoorL2Tt
set_option linter.unusedVariables false
set_option linter.constructorNameAsVariable false
set_option linter.unusedSimpArgs false
open Go Go.Sx
namespace Go.Proofs.YtbpilohnhhbbpaaGreatDoor
set_option maxRecDepth 100000
theorem ff_ok : (withC (withS (L2.cfg Tryz.prog) [L2.check_ L2.f_word_Check, L2.cAt, L2.cDer, L2.cRevoke, L2.cDrop, L2.tBy, L2.tRemove])).Ok Tryz.prog := withC_ok (withS_ok cfg_ok ⟨wCheck_holds, cAt_holds, cDer_holds, cRevoke_holds, cDrop_holds, tBy_holds, tRemove_holds, trivial⟩)
noncomputable def fD_t : Tree := .call 51 (Go.Sx.L2.check_ Go.Sx.L2.f_word_Check).rel [.c (2), .v 2, .v 3, .c (3), .c (0), .c (2)] [] 1 0 (.letI (.cmp .neq (.v 4) (.c 0)) (.ite (.v 5) (.done [.v 4] [0, 1]) (.call 80 (Go.Sx.L2.cDer).rel [.c (2), .c (64), .c (0), .v 2, .c (0), .v 3, .c (3)] [0] 1 1 (.letI (.cmp .neq (.v 6) (.c 0)) (.ite (.v 7) (.done [.v 6] [2, 1]) (.call 60 (Go.Sx.L2.cAt).rel [.c (2), .c (64), .c (0), .v 3] [2] 5 0 (.letI (.cmp .lss (.v 8) (.c 0)) (.ite (.v 13) (.call 13 (Go.Sx.L2.cDrop).rel [.c (2), .c (64), .c (0), .v 3] [2] 5 2 (.done [.c (6)] [4, 1])) (.letI (.cmp .leq (.c 2) (.v 8)) (.ite (.v 14) (.call 13 (Go.Sx.L2.cDrop).rel [.c (2), .c (64), .c (0), .v 3] [2] 5 2 (.done [.c (6)] [4, 1])) (.letI (.cmp .eql (.v 8) (.c 0)) (.ite (.v 15) (.letI (.get 1 (.c 0)) (.letI (.cmp .eql (.v 16) (.c 0)) (.ite (.v 17) (.call 13 (Go.Sx.L2.cDrop).rel [.c (2), .c (64), .c (0), .v 3] [2] 5 2 (.done [.c (6)] [4, 1])) (.letI (.cmp .leq (.c 7) (.v 16)) (.ite (.v 18) (.call 13 (Go.Sx.L2.cDrop).rel [.c (2), .c (64), .c (0), .v 3] [2] 5 2 (.done [.c (6)] [4, 1])) (.letI (.add (.v 16) (.c 1)) (.letL (.set 1 (.c 0) (.v 19)) (.done [.c (0)] [2, 3])))))))) (.letI (.get 1 (.c 1)) (.letI (.cmp .eql (.v 16) (.c 0)) (.ite (.v 17) (.call 13 (Go.Sx.L2.cDrop).rel [.c (2), .c (64), .c (0), .v 3] [2] 5 2 (.done [.c (6)] [4, 1])) (.letI (.cmp .leq (.c 7) (.v 16)) (.ite (.v 18) (.call 13 (Go.Sx.L2.cDrop).rel [.c (2), .c (64), .c (0), .v 3] [2] 5 2 (.done [.c (6)] [4, 1])) (.letI (.add (.v 16) (.c 1)) (.letL (.set 1 (.c 1) (.v 19)) (.done [.c (0)] [2, 3]))))))))))))))))))))
theorem fD_tree : (L2.fD).exe Tryz.prog (withC (withS (L2.cfg Tryz.prog) [L2.check_ L2.f_word_Check, L2.cAt, L2.cDer, L2.cRevoke, L2.cDrop, L2.tBy, L2.tRemove])) [] 20 200 = fD_t := by kernel_rfl
theorem fD_vc (Q : List Int → List (List Int) → Prop) (v0 v1 v2 v3 : Int) (L0 L1 : List Int) : fD_t.dn ⟨Q, []⟩ 4 [v3, v2, v1, v0] 2 [L1, L0] = ((Go.Sx.L2.check_ Go.Sx.L2.f_word_Check).rel.pre [(2 : Int), v2, v3, (3 : Int), (0 : Int), (2 : Int)] [] ∧
(∀ v4 : Int, (Go.Sx.L2.check_ Go.Sx.L2.f_word_Check).rel.post [(2 : Int), v2, v3, (3 : Int), (0 : Int), (2 : Int)] [] [v4] [] → ((v4 ≠ (0 : Int)) → Q [v4] [L0, L1]) ∧
((v4 = (0 : Int)) → (Go.Sx.L2.cDer).rel.pre [(2 : Int), (64 : Int), (0 : Int), v2, (0 : Int), v3, (3 : Int)] [L0] ∧
(∀ v6 : Int, ∀ L2 : List Int, (Go.Sx.L2.cDer).rel.post [(2 : Int), (64 : Int), (0 : Int), v2, (0 : Int), v3, (3 : Int)] [L0] [v6] [L2] → ((v6 ≠ (0 : Int)) → Q [v6] [L2, L1]) ∧
((v6 = (0 : Int)) → (Go.Sx.L2.cAt).rel.pre [(2 : Int), (64 : Int), (0 : Int), v3] [L2] ∧
(∀ v8 : Int, ∀ v9 : Int, ∀ v10 : Int, ∀ v11 : Int, ∀ v12 : Int, (Go.Sx.L2.cAt).rel.post [(2 : Int), (64 : Int), (0 : Int), v3] [L2] [v8, v9, v10, v11, v12] [] → ((v8 < (0 : Int)) → (Go.Sx.L2.cDrop).rel.pre [(2 : Int), (64 : Int), (0 : Int), v3] [L2] ∧
(∀ v14 : Int, ∀ v15 : Int, ∀ v16 : Int, ∀ v17 : Int, ∀ v18 : Int, ∀ L3 : List Int, ∀ L4 : List Int, (Go.Sx.L2.cDrop).rel.post [(2 : Int), (64 : Int), (0 : Int), v3] [L2] [v14, v15, v16, v17, v18] [L3, L4] → Q [(6 : Int)] [L4, L1])) ∧
(((0 : Int) ≤ v8) → (((2 : Int) ≤ v8) → (Go.Sx.L2.cDrop).rel.pre [(2 : Int), (64 : Int), (0 : Int), v3] [L2] ∧
(∀ v15 : Int, ∀ v16 : Int, ∀ v17 : Int, ∀ v18 : Int, ∀ v19 : Int, ∀ L3 : List Int, ∀ L4 : List Int, (Go.Sx.L2.cDrop).rel.post [(2 : Int), (64 : Int), (0 : Int), v3] [L2] [v15, v16, v17, v18, v19] [L3, L4] → Q [(6 : Int)] [L4, L1])) ∧
((v8 < (2 : Int)) → ((v8 = (0 : Int)) → ∀ v16 : Int, v16 = (L1).getD ((0 : Int)).toNat 0 → ((v16 = (0 : Int)) → (Go.Sx.L2.cDrop).rel.pre [(2 : Int), (64 : Int), (0 : Int), v3] [L2] ∧
(∀ v18 : Int, ∀ v19 : Int, ∀ v20 : Int, ∀ v21 : Int, ∀ v22 : Int, ∀ L3 : List Int, ∀ L4 : List Int, (Go.Sx.L2.cDrop).rel.post [(2 : Int), (64 : Int), (0 : Int), v3] [L2] [v18, v19, v20, v21, v22] [L3, L4] → Q [(6 : Int)] [L4, L1])) ∧
((v16 ≠ (0 : Int)) → (((7 : Int) ≤ v16) → (Go.Sx.L2.cDrop).rel.pre [(2 : Int), (64 : Int), (0 : Int), v3] [L2] ∧
(∀ v19 : Int, ∀ v20 : Int, ∀ v21 : Int, ∀ v22 : Int, ∀ v23 : Int, ∀ L3 : List Int, ∀ L4 : List Int, (Go.Sx.L2.cDrop).rel.post [(2 : Int), (64 : Int), (0 : Int), v3] [L2] [v19, v20, v21, v22, v23] [L3, L4] → Q [(6 : Int)] [L4, L1])) ∧
((v16 < (7 : Int)) → ∀ v19 : Int, v19 = v16 + (1 : Int) → ∀ L3 : List Int, L3 = (L1).set ((0 : Int)).toNat v19 → Q [(0 : Int)] [L2, L3]))) ∧
((v8 ≠ (0 : Int)) → ∀ v16 : Int, v16 = (L1).getD ((1 : Int)).toNat 0 → ((v16 = (0 : Int)) → (Go.Sx.L2.cDrop).rel.pre [(2 : Int), (64 : Int), (0 : Int), v3] [L2] ∧
(∀ v18 : Int, ∀ v19 : Int, ∀ v20 : Int, ∀ v21 : Int, ∀ v22 : Int, ∀ L3 : List Int, ∀ L4 : List Int, (Go.Sx.L2.cDrop).rel.post [(2 : Int), (64 : Int), (0 : Int), v3] [L2] [v18, v19, v20, v21, v22] [L3, L4] → Q [(6 : Int)] [L4, L1])) ∧
((v16 ≠ (0 : Int)) → (((7 : Int) ≤ v16) → (Go.Sx.L2.cDrop).rel.pre [(2 : Int), (64 : Int), (0 : Int), v3] [L2] ∧
(∀ v19 : Int, ∀ v20 : Int, ∀ v21 : Int, ∀ v22 : Int, ∀ v23 : Int, ∀ L3 : List Int, ∀ L4 : List Int, (Go.Sx.L2.cDrop).rel.post [(2 : Int), (64 : Int), (0 : Int), v3] [L2] [v19, v20, v21, v22, v23] [L3, L4] → Q [(6 : Int)] [L4, L1])) ∧
((v16 < (7 : Int)) → ∀ v19 : Int, v19 = v16 + (1 : Int) → ∀ L3 : List Int, L3 = (L1).set ((1 : Int)).toNat v19 → Q [(0 : Int)] [L2, L3]))))))))))) := by kernel_rfl
set_option maxHeartbeats 4000000 in
theorem fD_holds : (L2.fD).Holds Tryz.prog L2.ro := FSpec.holdsV (cfg := withC (withS (L2.cfg Tryz.prog) [L2.check_ L2.f_word_Check, L2.cAt, L2.cDer, L2.cRevoke, L2.cDrop, L2.tBy, L2.tRemove])) [] 20 200 ff_ok mixed (t := fD_t) fD_tree (by
  show ∀ (v0 v1 v2 v3 : Int) (L0 L1 : List Int), _
  intro v0 v1 v2 v3 L0 L1 hp hr hl
  replace hr : (((2) : Int) ≤ v0 ∧ v0 ≤ ((9223372036854775807) : Int)) ∧ (((2) : Int) ≤ v1 ∧ v1 ≤ ((9223372036854775807) : Int)) ∧ (((0) : Int) ≤ v2 ∧ v2 ≤ ((6) : Int)) ∧ (((0) : Int) ≤ v3 ∧ v3 ≤ ((7) : Int)) ∧ True := hr
  replace hl : (∀ x ∈ L0, (((-9223372036854775808) : Int) ≤ x ∧ x ≤ ((9223372036854775807) : Int))) ∧ (∀ x ∈ L1, (((0) : Int) ≤ x ∧ x ≤ ((7) : Int))) ∧ True := hl
  show fD_t.dn ⟨_, []⟩ 4 [v3, v2, v1, v0] 2 [L1, L0]
  rw [fD_vc]
  obtain ⟨n, s, h, hn, hR, hs, h2, h3⟩ := hp
  replace h : FS n L0 := h
  replace hR : L1 = [(n : Int), 0] := hR
  replace h2 : v2 = s := h2
  replace h3 : v3 = n := h3
  subst hR h2 h3
  have hc : checkN 2 s n 3 0 2 = 0 := by
    have hk : callOk 2 = true := rfl
    unfold checkN
    rw [hk, if_pos rfl, if_pos]
    simp [argsB, rightsB]; omega
  have post : ∀ (e : Int) (L' R' : List Int), ((n < 7 → e = 0 ∧ FS (n + 1) L' ∧ R' = [(n : Int) + 1, 0]) ∧ (n = 7 → e = 6 ∧ FS 7 L' ∧ R' = [7, 0])) → FPost L0 [(n : Int), 0] n e L' R' := by
    intro e L' R' hh m _ hm _
    have : m = n := by
      have := (List.cons.inj hm).1
      omega
    subst this
    exact hh
  obtain ⟨dE, dL, hF⟩ := h.der (src := s) (by omega) hs
  have n1 := h.n1
  refine ⟨trivial, fun v4 q4 => ⟨fun c => absurd (List.cons.inj q4).1 ?_, fun c4 => ⟨rfl, fun v6 M q6 => ?_⟩⟩⟩
  · intro hh; exact c (hh.trans hc)
  have e6 : v6 = 0 := ((List.cons.inj q6.1).1).trans dE
  have eM : M = cSet L0 0 n 0 3 0 s := ((List.cons.inj q6.2).1).trans dL
  subst e6 eM
  refine ⟨fun c => absurd rfl c, fun _ => ⟨rfl, fun v8 v9 v10 v11 v12 q8 => ?_⟩⟩
  have ok : capOk 2 (cSet L0 0 n 0 3 0 s) 0 n = true := by
    have := (hF.cap n (by omega)).2
    simp only [capOk, plOk, this]
    simp; omega
  have e8 : v8 = 0 := by
    refine ((List.cons.inj q8.1).1).trans ?_
    show capV 2 (cSet L0 0 n 0 3 0 s) 0 n 0 = 0
    rw [capV, if_pos ok]
    exact (hF.cap n (by omega)).1
  subst e8
  refine ⟨fun c => by omega, fun _ => ⟨fun c => by omega, fun _ => ⟨fun _ v16 q16 => ?_, fun c => absurd rfl c⟩⟩⟩
  replace q16 : v16 = n := q16
  subst q16
  refine ⟨fun c => by omega, fun _ => ⟨fun c => ?_, fun c v19 q19 L3 q3 => post _ _ _ ⟨fun _ => ⟨rfl, hF, ?_⟩, fun c => by omega⟩⟩⟩
  · have n7 : n = 7 := by omega
    subst n7
    obtain ⟨d1, d2⟩ := hF.eighth
    have lk : lookE 2 (cSet L0 0 (7 : Nat) 0 3 0 s) 0 (7 : Nat) = 0 := by
      have := (hF.cap 7 (by omega)).2
      unfold lookE
      rw [this]; rfl
    refine ⟨⟨rfl, hF.cv⟩, fun v19 v20 v21 v22 v23 W M q => post _ _ _ ⟨fun c => by omega, fun _ => ⟨rfl, ?_, rfl⟩⟩⟩
    have y := q.2.2.2.2.2
    replace y : [W, M] = if lookE 2 (cSet L0 0 (7 : Nat) 0 3 0 s) 0 (7 : Nat) = 0 then [dropL 2 (cSet L0 0 (7 : Nat) 0 3 0 s) 0 (7 : Nat), emptyC (cSet L0 0 (7 : Nat) 0 3 0 s) (dropL 2 (cSet L0 0 (7 : Nat) 0 3 0 s) 0 (7 : Nat))] else [[], cSet L0 0 (7 : Nat) 0 3 0 s] := y
    rw [if_pos lk] at y
    have y1 := (List.cons.inj (List.cons.inj y).2).1
    rw [y1]
    have d1' : dropL 2 (cSet L0 0 (7 : Nat) 0 3 0 s) 0 (7 : Nat) = [0, 7] := d1
    rw [d1']; exact d2
  · subst q3 q19; rfl)
noncomputable def fG_t : Tree := .call 51 (Go.Sx.L2.check_ Go.Sx.L2.f_word_Check).rel [.c (3), .c (0), .c (1), .c (0), .c (1), .c (2)] [] 1 0 (.letI (.cmp .neq (.v 2) (.c 0)) (.ite (.v 3) (.done [.v 2] [0, 1]) (.call 80 (Go.Sx.L2.cDer).rel [.c (2), .c (64), .c (0), .c (0), .c (1), .c (0), .c (1)] [0] 1 1 (.letI (.cmp .neq (.v 4) (.c 0)) (.ite (.v 5) (.done [.v 4] [2, 1]) (.call 60 (Go.Sx.L2.cAt).rel [.c (2), .c (64), .c (1), .c (0)] [2] 5 0 (.letI (.cmp .lss (.v 6) (.c 0)) (.ite (.v 11) (.call 13 (Go.Sx.L2.cDrop).rel [.c (2), .c (64), .c (1), .c (0)] [2] 5 2 (.done [.c (6)] [4, 1])) (.letI (.cmp .leq (.c 2) (.v 6)) (.ite (.v 12) (.call 13 (Go.Sx.L2.cDrop).rel [.c (2), .c (64), .c (1), .c (0)] [2] 5 2 (.done [.c (6)] [4, 1])) (.letI (.cmp .eql (.v 6) (.c 0)) (.ite (.v 13) (.letI (.get 1 (.c 0)) (.letI (.cmp .eql (.v 14) (.c 0)) (.ite (.v 15) (.call 13 (Go.Sx.L2.cDrop).rel [.c (2), .c (64), .c (1), .c (0)] [2] 5 2 (.done [.c (6)] [4, 1])) (.letI (.cmp .leq (.c 7) (.v 14)) (.ite (.v 16) (.call 13 (Go.Sx.L2.cDrop).rel [.c (2), .c (64), .c (1), .c (0)] [2] 5 2 (.done [.c (6)] [4, 1])) (.letI (.add (.v 14) (.c 1)) (.letL (.set 1 (.c 0) (.v 17)) (.done [.c (0)] [2, 3])))))))) (.letI (.get 1 (.c 1)) (.letI (.cmp .eql (.v 14) (.c 0)) (.ite (.v 15) (.call 13 (Go.Sx.L2.cDrop).rel [.c (2), .c (64), .c (1), .c (0)] [2] 5 2 (.done [.c (6)] [4, 1])) (.letI (.cmp .leq (.c 7) (.v 14)) (.ite (.v 16) (.call 13 (Go.Sx.L2.cDrop).rel [.c (2), .c (64), .c (1), .c (0)] [2] 5 2 (.done [.c (6)] [4, 1])) (.letI (.add (.v 14) (.c 1)) (.letL (.set 1 (.c 1) (.v 17)) (.done [.c (0)] [2, 3]))))))))))))))))))))
theorem fG_tree : (L2.fG).exe Tryz.prog (withC (withS (L2.cfg Tryz.prog) [L2.check_ L2.f_word_Check, L2.cAt, L2.cDer, L2.cRevoke, L2.cDrop, L2.tBy, L2.tRemove])) [] 20 200 = fG_t := by kernel_rfl
theorem fG_vc (Q : List Int → List (List Int) → Prop) (v0 v1 : Int) (L0 L1 : List Int) : fG_t.dn ⟨Q, []⟩ 2 [v1, v0] 2 [L1, L0] = ((Go.Sx.L2.check_ Go.Sx.L2.f_word_Check).rel.pre [(3 : Int), (0 : Int), (1 : Int), (0 : Int), (1 : Int), (2 : Int)] [] ∧
(∀ v2 : Int, (Go.Sx.L2.check_ Go.Sx.L2.f_word_Check).rel.post [(3 : Int), (0 : Int), (1 : Int), (0 : Int), (1 : Int), (2 : Int)] [] [v2] [] → ((v2 ≠ (0 : Int)) → Q [v2] [L0, L1]) ∧
((v2 = (0 : Int)) → (Go.Sx.L2.cDer).rel.pre [(2 : Int), (64 : Int), (0 : Int), (0 : Int), (1 : Int), (0 : Int), (1 : Int)] [L0] ∧
(∀ v4 : Int, ∀ L2 : List Int, (Go.Sx.L2.cDer).rel.post [(2 : Int), (64 : Int), (0 : Int), (0 : Int), (1 : Int), (0 : Int), (1 : Int)] [L0] [v4] [L2] → ((v4 ≠ (0 : Int)) → Q [v4] [L2, L1]) ∧
((v4 = (0 : Int)) → (Go.Sx.L2.cAt).rel.pre [(2 : Int), (64 : Int), (1 : Int), (0 : Int)] [L2] ∧
(∀ v6 : Int, ∀ v7 : Int, ∀ v8 : Int, ∀ v9 : Int, ∀ v10 : Int, (Go.Sx.L2.cAt).rel.post [(2 : Int), (64 : Int), (1 : Int), (0 : Int)] [L2] [v6, v7, v8, v9, v10] [] → ((v6 < (0 : Int)) → (Go.Sx.L2.cDrop).rel.pre [(2 : Int), (64 : Int), (1 : Int), (0 : Int)] [L2] ∧
(∀ v12 : Int, ∀ v13 : Int, ∀ v14 : Int, ∀ v15 : Int, ∀ v16 : Int, ∀ L3 : List Int, ∀ L4 : List Int, (Go.Sx.L2.cDrop).rel.post [(2 : Int), (64 : Int), (1 : Int), (0 : Int)] [L2] [v12, v13, v14, v15, v16] [L3, L4] → Q [(6 : Int)] [L4, L1])) ∧
(((0 : Int) ≤ v6) → (((2 : Int) ≤ v6) → (Go.Sx.L2.cDrop).rel.pre [(2 : Int), (64 : Int), (1 : Int), (0 : Int)] [L2] ∧
(∀ v13 : Int, ∀ v14 : Int, ∀ v15 : Int, ∀ v16 : Int, ∀ v17 : Int, ∀ L3 : List Int, ∀ L4 : List Int, (Go.Sx.L2.cDrop).rel.post [(2 : Int), (64 : Int), (1 : Int), (0 : Int)] [L2] [v13, v14, v15, v16, v17] [L3, L4] → Q [(6 : Int)] [L4, L1])) ∧
((v6 < (2 : Int)) → ((v6 = (0 : Int)) → ∀ v14 : Int, v14 = (L1).getD ((0 : Int)).toNat 0 → ((v14 = (0 : Int)) → (Go.Sx.L2.cDrop).rel.pre [(2 : Int), (64 : Int), (1 : Int), (0 : Int)] [L2] ∧
(∀ v16 : Int, ∀ v17 : Int, ∀ v18 : Int, ∀ v19 : Int, ∀ v20 : Int, ∀ L3 : List Int, ∀ L4 : List Int, (Go.Sx.L2.cDrop).rel.post [(2 : Int), (64 : Int), (1 : Int), (0 : Int)] [L2] [v16, v17, v18, v19, v20] [L3, L4] → Q [(6 : Int)] [L4, L1])) ∧
((v14 ≠ (0 : Int)) → (((7 : Int) ≤ v14) → (Go.Sx.L2.cDrop).rel.pre [(2 : Int), (64 : Int), (1 : Int), (0 : Int)] [L2] ∧
(∀ v17 : Int, ∀ v18 : Int, ∀ v19 : Int, ∀ v20 : Int, ∀ v21 : Int, ∀ L3 : List Int, ∀ L4 : List Int, (Go.Sx.L2.cDrop).rel.post [(2 : Int), (64 : Int), (1 : Int), (0 : Int)] [L2] [v17, v18, v19, v20, v21] [L3, L4] → Q [(6 : Int)] [L4, L1])) ∧
((v14 < (7 : Int)) → ∀ v17 : Int, v17 = v14 + (1 : Int) → ∀ L3 : List Int, L3 = (L1).set ((0 : Int)).toNat v17 → Q [(0 : Int)] [L2, L3]))) ∧
((v6 ≠ (0 : Int)) → ∀ v14 : Int, v14 = (L1).getD ((1 : Int)).toNat 0 → ((v14 = (0 : Int)) → (Go.Sx.L2.cDrop).rel.pre [(2 : Int), (64 : Int), (1 : Int), (0 : Int)] [L2] ∧
(∀ v16 : Int, ∀ v17 : Int, ∀ v18 : Int, ∀ v19 : Int, ∀ v20 : Int, ∀ L3 : List Int, ∀ L4 : List Int, (Go.Sx.L2.cDrop).rel.post [(2 : Int), (64 : Int), (1 : Int), (0 : Int)] [L2] [v16, v17, v18, v19, v20] [L3, L4] → Q [(6 : Int)] [L4, L1])) ∧
((v14 ≠ (0 : Int)) → (((7 : Int) ≤ v14) → (Go.Sx.L2.cDrop).rel.pre [(2 : Int), (64 : Int), (1 : Int), (0 : Int)] [L2] ∧
(∀ v17 : Int, ∀ v18 : Int, ∀ v19 : Int, ∀ v20 : Int, ∀ v21 : Int, ∀ L3 : List Int, ∀ L4 : List Int, (Go.Sx.L2.cDrop).rel.post [(2 : Int), (64 : Int), (1 : Int), (0 : Int)] [L2] [v17, v18, v19, v20, v21] [L3, L4] → Q [(6 : Int)] [L4, L1])) ∧
((v14 < (7 : Int)) → ∀ v17 : Int, v17 = v14 + (1 : Int) → ∀ L3 : List Int, L3 = (L1).set ((1 : Int)).toNat v17 → Q [(0 : Int)] [L2, L3]))))))))))) := by kernel_rfl
set_option maxHeartbeats 4000000 in
theorem fG_holds : (L2.fG).Holds Tryz.prog L2.ro := FSpec.holdsV (cfg := withC (withS (L2.cfg Tryz.prog) [L2.check_ L2.f_word_Check, L2.cAt, L2.cDer, L2.cRevoke, L2.cDrop, L2.tBy, L2.tRemove])) [] 20 200 ff_ok mixed (t := fG_t) fG_tree (by
  show ∀ (v0 v1 : Int) (L0 L1 : List Int), _
  intro v0 v1 L0 L1 hp hr hl
  replace hr : (((2) : Int) ≤ v0 ∧ v0 ≤ ((9223372036854775807) : Int)) ∧ (((2) : Int) ≤ v1 ∧ v1 ≤ ((9223372036854775807) : Int)) ∧ True := hr
  replace hl : (∀ x ∈ L0, (((-9223372036854775808) : Int) ≤ x ∧ x ≤ ((9223372036854775807) : Int))) ∧ (∀ x ∈ L1, (((0) : Int) ≤ x ∧ x ≤ ((7) : Int))) ∧ True := hl
  show fG_t.dn ⟨_, []⟩ 2 [v1, v0] 2 [L1, L0]
  rw [fG_vc]
  obtain ⟨h, hR⟩ := hp
  replace h : FS 7 L0 := h
  replace hR : L1 = [7, 0] := hR
  subst hR
  have hc : checkN 3 0 1 0 1 2 = 0 := by decide
  obtain ⟨dE, dL, dD, hF⟩ := h.grant
  have c0 := (h.cap 0 (by omega)).1
  have g := fun (e s i : Nat) (he : e < 2) (hs : s < 8) (hi : i < 4) => cG_set (L := L0) (n := 2) (e := 1) (s := 0) (f := 0) (r := 1) (pe := 0) (ps := 0) (e' := e) (s' := s) (k := i) h.len (by omega) (by omega) (by omega) (by omega) (by omega) (by omega) (by omega) hi
  have g0 := g 1 0 0 (by omega) (by omega) (by omega)
  have g1 := g 1 0 1 (by omega) (by omega) (by omega)
  rw [if_pos ⟨rfl, rfl⟩] at g0 g1
  replace g0 : cG (cSet L0 1 0 0 1 0 0) 1 0 0 = 0 := g0
  replace g1 : cG (cSet L0 1 0 0 1 0 0) 1 0 1 = 1 := g1
  refine ⟨trivial, fun v2 q2 => ⟨fun c => absurd (List.cons.inj q2).1 ?_, fun c4 => ⟨rfl, fun v4 M q4 => ?_⟩⟩⟩
  · intro hh; exact c (hh.trans hc)
  have e4 : v4 = 0 := ((List.cons.inj q4.1).1).trans dE
  have eM : M = cSet L0 1 0 0 1 0 0 := ((List.cons.inj q4.2).1).trans dL
  subst e4 eM
  have hv : CV 2 (cSet L0 1 0 0 1 0 0) := h.grantCV
  refine ⟨fun c => absurd rfl c, fun _ => ⟨rfl, fun v6 v7 v8 v9 v10 q6 => ?_⟩⟩
  have ok : capOk 2 (cSet L0 1 0 0 1 0 0) 1 0 = true := by
    simp only [capOk, plOk, g1]
    simp
  have e6 : v6 = 0 := by
    refine ((List.cons.inj q6.1).1).trans ?_
    show capV 2 (cSet L0 1 0 0 1 0 0) 1 0 0 = 0
    rw [capV, if_pos ok]
    exact g0
  subst e6
  refine ⟨fun c => by omega, fun _ => ⟨fun c => by omega, fun _ => ⟨fun _ v14 q14 => ?_, fun c => absurd rfl c⟩⟩⟩
  replace q14 : v14 = 7 := q14
  subst q14
  refine ⟨fun c => by omega, fun _ => ⟨fun c => ?_, fun c => by omega⟩⟩
  have lk : lookE 2 (cSet L0 1 0 0 1 0 0) 1 0 = 0 := by
    unfold lookE
    rw [g1]; rfl
  refine ⟨⟨rfl, hv⟩, fun v17 v18 v19 v20 v21 W M q => ⟨rfl, ?_, rfl⟩⟩
  have y := q.2.2.2.2.2
  replace y : [W, M] = if lookE 2 (cSet L0 1 0 0 1 0 0) 1 0 = 0 then [dropL 2 (cSet L0 1 0 0 1 0 0) 1 0, emptyC (cSet L0 1 0 0 1 0 0) (dropL 2 (cSet L0 1 0 0 1 0 0) 1 0)] else [[], cSet L0 1 0 0 1 0 0] := y
  rw [if_pos lk, dD] at y
  have y1 := (List.cons.inj (List.cons.inj y).2).1
  subst y1
  exact hF)
noncomputable def fX_t : Tree := .call 51 (Go.Sx.L2.check_ Go.Sx.L2.f_word_Check).rel [.c (5), .c (0), .c (0), .c (0), .c (0), .c (2)] [] 1 0 (.letI (.cmp .neq (.v 2) (.c 0)) (.ite (.v 3) (.fail 180) (.call 60 (Go.Sx.L2.cAt).rel [.c (2), .c (64), .c (0), .c (0)] [0] 5 0 (.call 110 (Go.Sx.L2.cRevoke).rel [.c (2), .c (64), .c (0), .c (0)] [0] 5 2 (.letI (.cmp .eql (.v 13) (.c 0)) (.ite (.v 14) (.call 13 (Go.Sx.L2.cDrop).rel [.c (2), .c (64), .c (0), .c (0)] [5] 5 2 (.letI (.cmp .eql (.v 16) (.c 0)) (.ite (.v 20) (.need .leq (.v 9) (.v 10) (.letI (.pick (.v 10) (.v 9) (.c 0)) (.loop [.c (0)] [1, 2, 3] (.letI (.cmp .lss (.v 22) (.v 21)) (.ite (.v 23) (.need .neq (.v 10) (.c 0) (.need .lss (.v 22) (.v 9) (.letI (.mul (.v 22) (.c 2)) (.need .lss (.v 24) (.v 11) (.letI (.get 4 (.v 24)) (.letI (.add (.v 24) (.c 1)) (.need .lss (.v 26) (.v 11) (.letI (.get 4 (.v 26)) (.letI (.cmp .eql (.v 25) (.c 0)) (.ite (.v 28) (.call 111 (Go.Sx.L2.tBy).rel [.v 27] [9] 2 1 (.letI (.pick (.v 30) (.v 29) (.c 0)) (.loop [.c (0)] [9, 10] (.letI (.cmp .lss (.v 32) (.v 31)) (.ite (.v 33) (.need .lss (.v 32) (.v 29) (.need .lss (.v 32) (.v 29) (.letI (.get 11 (.v 32)) (.need .geq (.v 34) (.c (-9223372036854775808)) (.need .leq (.v 34) (.c 9223372036854775807) (.call 56 (Go.Sx.L2.tRemove).rel [.v 34] [12] 4 1 (.letI (.add (.v 32) (.c 1)) (.again [.v 39] [14, 13])))))))) (.exit (.letI (.cmp .lss (.v 4) (.c 0)) (.ite (.v 34) (.letI (.add (.v 22) (.c 1)) (.again [.v 35] [8, 12, 13])) (.letI (.cmp .leq (.c 2) (.v 4)) (.ite (.v 35) (.letI (.add (.v 22) (.c 1)) (.again [.v 36] [8, 12, 13])) (.letI (.cmp .eql (.v 4) (.c 0)) (.ite (.v 36) (.letI (.get 8 (.c 0)) (.letI (.cmp .eql (.v 37) (.c 0)) (.ite (.v 38) (.letI (.add (.v 22) (.c 1)) (.again [.v 39] [8, 12, 13])) (.letI (.sub (.v 37) (.c 1)) (.letL (.set 8 (.c 0) (.v 39)) (.letI (.get 14 (.c 0)) (.letI (.add (.v 22) (.c 1)) (.again [.v 41] [14, 12, 13])))))))) (.letI (.get 8 (.c 1)) (.letI (.cmp .eql (.v 37) (.c 0)) (.ite (.v 38) (.letI (.add (.v 22) (.c 1)) (.again [.v 39] [8, 12, 13])) (.letI (.sub (.v 37) (.c 1)) (.letL (.set 8 (.c 1) (.v 39)) (.letI (.get 14 (.c 1)) (.letI (.add (.v 22) (.c 1)) (.again [.v 41] [14, 12, 13])))))))))))))))))))) (.letI (.cmp .eql (.v 25) (.c 1)) (.ite (.v 29) (.call 111 (Go.Sx.L2.tBy).rel [.v 27] [10] 2 1 (.letI (.pick (.v 31) (.v 30) (.c 0)) (.loop [.c (0)] [9, 10] (.letI (.cmp .lss (.v 33) (.v 32)) (.ite (.v 34) (.need .lss (.v 33) (.v 30) (.need .lss (.v 33) (.v 30) (.letI (.get 11 (.v 33)) (.need .geq (.v 35) (.c (-9223372036854775808)) (.need .leq (.v 35) (.c 9223372036854775807) (.call 56 (Go.Sx.L2.tRemove).rel [.v 35] [13] 4 1 (.letI (.add (.v 33) (.c 1)) (.again [.v 40] [12, 14])))))))) (.exit (.letI (.cmp .lss (.v 4) (.c 0)) (.ite (.v 35) (.letI (.add (.v 22) (.c 1)) (.again [.v 36] [8, 12, 13])) (.letI (.cmp .leq (.c 2) (.v 4)) (.ite (.v 36) (.letI (.add (.v 22) (.c 1)) (.again [.v 37] [8, 12, 13])) (.letI (.cmp .eql (.v 4) (.c 0)) (.ite (.v 37) (.letI (.get 8 (.c 0)) (.letI (.cmp .eql (.v 38) (.c 0)) (.ite (.v 39) (.letI (.add (.v 22) (.c 1)) (.again [.v 40] [8, 12, 13])) (.letI (.sub (.v 38) (.c 1)) (.letL (.set 8 (.c 0) (.v 40)) (.letI (.get 14 (.c 0)) (.letI (.add (.v 22) (.c 1)) (.again [.v 42] [14, 12, 13])))))))) (.letI (.get 8 (.c 1)) (.letI (.cmp .eql (.v 38) (.c 0)) (.ite (.v 39) (.letI (.add (.v 22) (.c 1)) (.again [.v 40] [8, 12, 13])) (.letI (.sub (.v 38) (.c 1)) (.letL (.set 8 (.c 1) (.v 40)) (.letI (.get 14 (.c 1)) (.letI (.add (.v 22) (.c 1)) (.again [.v 42] [14, 12, 13])))))))))))))))))))) (.letI (.cmp .eql (.v 25) (.c 2)) (.ite (.v 30) (.fail 1) (.letI (.cmp .eql (.v 25) (.c 3)) (.ite (.v 31) (.fail 1) (.letI (.cmp .eql (.v 25) (.c 4)) (.ite (.v 32) (.fail 1) (.letI (.cmp .eql (.v 25) (.c 5)) (.ite (.v 33) (.fail 1) (.letI (.cmp .eql (.v 25) (.c 6)) (.ite (.v 34) (.fail 1) (.fail 1))))))))))))))))))))))) (.exit (.done [.v 21] [7, 8, 9, 10]))))))) (.letI (.cmp .eql (.v 15) (.c 0)) (.ite (.v 21) (.need .leq (.v 9) (.v 10) (.letI (.pick (.v 10) (.v 9) (.c 0)) (.loop [.c (0)] [1, 2, 3] (.letI (.cmp .lss (.v 23) (.v 22)) (.ite (.v 24) (.need .neq (.v 10) (.c 0) (.need .lss (.v 23) (.v 9) (.letI (.mul (.v 23) (.c 2)) (.need .lss (.v 25) (.v 11) (.letI (.get 4 (.v 25)) (.letI (.add (.v 25) (.c 1)) (.need .lss (.v 27) (.v 11) (.letI (.get 4 (.v 27)) (.letI (.cmp .eql (.v 26) (.c 0)) (.ite (.v 29) (.call 111 (Go.Sx.L2.tBy).rel [.v 28] [9] 2 1 (.letI (.pick (.v 31) (.v 30) (.c 0)) (.loop [.c (0)] [9, 10] (.letI (.cmp .lss (.v 33) (.v 32)) (.ite (.v 34) (.need .lss (.v 33) (.v 30) (.need .lss (.v 33) (.v 30) (.letI (.get 11 (.v 33)) (.need .geq (.v 35) (.c (-9223372036854775808)) (.need .leq (.v 35) (.c 9223372036854775807) (.call 56 (Go.Sx.L2.tRemove).rel [.v 35] [12] 4 1 (.letI (.add (.v 33) (.c 1)) (.again [.v 40] [14, 13])))))))) (.exit (.letI (.cmp .lss (.v 4) (.c 0)) (.ite (.v 35) (.letI (.add (.v 23) (.c 1)) (.again [.v 36] [8, 12, 13])) (.letI (.cmp .leq (.c 2) (.v 4)) (.ite (.v 36) (.letI (.add (.v 23) (.c 1)) (.again [.v 37] [8, 12, 13])) (.letI (.cmp .eql (.v 4) (.c 0)) (.ite (.v 37) (.letI (.get 8 (.c 0)) (.letI (.cmp .eql (.v 38) (.c 0)) (.ite (.v 39) (.letI (.add (.v 23) (.c 1)) (.again [.v 40] [8, 12, 13])) (.letI (.sub (.v 38) (.c 1)) (.letL (.set 8 (.c 0) (.v 40)) (.letI (.get 14 (.c 0)) (.letI (.add (.v 23) (.c 1)) (.again [.v 42] [14, 12, 13])))))))) (.letI (.get 8 (.c 1)) (.letI (.cmp .eql (.v 38) (.c 0)) (.ite (.v 39) (.letI (.add (.v 23) (.c 1)) (.again [.v 40] [8, 12, 13])) (.letI (.sub (.v 38) (.c 1)) (.letL (.set 8 (.c 1) (.v 40)) (.letI (.get 14 (.c 1)) (.letI (.add (.v 23) (.c 1)) (.again [.v 42] [14, 12, 13])))))))))))))))))))) (.letI (.cmp .eql (.v 26) (.c 1)) (.ite (.v 30) (.call 111 (Go.Sx.L2.tBy).rel [.v 28] [10] 2 1 (.letI (.pick (.v 32) (.v 31) (.c 0)) (.loop [.c (0)] [9, 10] (.letI (.cmp .lss (.v 34) (.v 33)) (.ite (.v 35) (.need .lss (.v 34) (.v 31) (.need .lss (.v 34) (.v 31) (.letI (.get 11 (.v 34)) (.need .geq (.v 36) (.c (-9223372036854775808)) (.need .leq (.v 36) (.c 9223372036854775807) (.call 56 (Go.Sx.L2.tRemove).rel [.v 36] [13] 4 1 (.letI (.add (.v 34) (.c 1)) (.again [.v 41] [12, 14])))))))) (.exit (.letI (.cmp .lss (.v 4) (.c 0)) (.ite (.v 36) (.letI (.add (.v 23) (.c 1)) (.again [.v 37] [8, 12, 13])) (.letI (.cmp .leq (.c 2) (.v 4)) (.ite (.v 37) (.letI (.add (.v 23) (.c 1)) (.again [.v 38] [8, 12, 13])) (.letI (.cmp .eql (.v 4) (.c 0)) (.ite (.v 38) (.letI (.get 8 (.c 0)) (.letI (.cmp .eql (.v 39) (.c 0)) (.ite (.v 40) (.letI (.add (.v 23) (.c 1)) (.again [.v 41] [8, 12, 13])) (.letI (.sub (.v 39) (.c 1)) (.letL (.set 8 (.c 0) (.v 41)) (.letI (.get 14 (.c 0)) (.letI (.add (.v 23) (.c 1)) (.again [.v 43] [14, 12, 13])))))))) (.letI (.get 8 (.c 1)) (.letI (.cmp .eql (.v 39) (.c 0)) (.ite (.v 40) (.letI (.add (.v 23) (.c 1)) (.again [.v 41] [8, 12, 13])) (.letI (.sub (.v 39) (.c 1)) (.letL (.set 8 (.c 1) (.v 41)) (.letI (.get 14 (.c 1)) (.letI (.add (.v 23) (.c 1)) (.again [.v 43] [14, 12, 13])))))))))))))))))))) (.letI (.cmp .eql (.v 26) (.c 2)) (.ite (.v 31) (.fail 1) (.letI (.cmp .eql (.v 26) (.c 3)) (.ite (.v 32) (.fail 1) (.letI (.cmp .eql (.v 26) (.c 4)) (.ite (.v 33) (.fail 1) (.letI (.cmp .eql (.v 26) (.c 5)) (.ite (.v 34) (.fail 1) (.letI (.cmp .eql (.v 26) (.c 6)) (.ite (.v 35) (.fail 1) (.fail 1))))))))))))))))))))))) (.exit (.done [.v 22] [7, 8, 9, 10]))))))) (.letI (.add (.v 9) (.v 15)) (.letI (.mul (.v 15) (.c 2)) (.need .leq (.v 23) (.v 17) (.letL (.take 6 (.v 23)) (.need .leq (.v 9) (.v 10) (.letI (.mul (.v 9) (.c 2)) (.need .leq (.v 24) (.v 11) (.letI (.mul (.v 10) (.c 2)) (.need .eql (.v 25) (.v 12) (.letL (.take 4 (.v 24)) (.letL (.app 9 8) (.any (.v 22) (.c 9223372036854775807) (.letI (.mul (.v 22) (.c 2)) (.letI (.mul (.v 26) (.c 2)) (.loop [.c (0)] [1, 2, 3] (.letI (.cmp .lss (.v 29) (.v 22)) (.ite (.v 30) (.need .lss (.v 29) (.v 22) (.letI (.mul (.v 29) (.c 2)) (.need .lss (.v 31) (.v 27) (.letI (.get 10 (.v 31)) (.letI (.add (.v 31) (.c 1)) (.need .lss (.v 33) (.v 27) (.letI (.get 10 (.v 33)) (.letI (.cmp .eql (.v 32) (.c 0)) (.ite (.v 35) (.call 111 (Go.Sx.L2.tBy).rel [.v 34] [12] 2 1 (.letI (.pick (.v 37) (.v 36) (.c 0)) (.loop [.c (0)] [12, 13] (.letI (.cmp .lss (.v 39) (.v 38)) (.ite (.v 40) (.need .lss (.v 39) (.v 36) (.need .lss (.v 39) (.v 36) (.letI (.get 14 (.v 39)) (.need .geq (.v 41) (.c (-9223372036854775808)) (.need .leq (.v 41) (.c 9223372036854775807) (.call 56 (Go.Sx.L2.tRemove).rel [.v 41] [15] 4 1 (.letI (.add (.v 39) (.c 1)) (.again [.v 46] [17, 16])))))))) (.exit (.letI (.cmp .lss (.v 4) (.c 0)) (.ite (.v 41) (.letI (.add (.v 29) (.c 1)) (.again [.v 42] [11, 15, 16])) (.letI (.cmp .leq (.c 2) (.v 4)) (.ite (.v 42) (.letI (.add (.v 29) (.c 1)) (.again [.v 43] [11, 15, 16])) (.letI (.cmp .eql (.v 4) (.c 0)) (.ite (.v 43) (.letI (.get 11 (.c 0)) (.letI (.cmp .eql (.v 44) (.c 0)) (.ite (.v 45) (.letI (.add (.v 29) (.c 1)) (.again [.v 46] [11, 15, 16])) (.letI (.sub (.v 44) (.c 1)) (.letL (.set 11 (.c 0) (.v 46)) (.letI (.get 17 (.c 0)) (.letI (.add (.v 29) (.c 1)) (.again [.v 48] [17, 15, 16])))))))) (.letI (.get 11 (.c 1)) (.letI (.cmp .eql (.v 44) (.c 0)) (.ite (.v 45) (.letI (.add (.v 29) (.c 1)) (.again [.v 46] [11, 15, 16])) (.letI (.sub (.v 44) (.c 1)) (.letL (.set 11 (.c 1) (.v 46)) (.letI (.get 17 (.c 1)) (.letI (.add (.v 29) (.c 1)) (.again [.v 48] [17, 15, 16])))))))))))))))))))) (.letI (.cmp .eql (.v 32) (.c 1)) (.ite (.v 36) (.call 111 (Go.Sx.L2.tBy).rel [.v 34] [13] 2 1 (.letI (.pick (.v 38) (.v 37) (.c 0)) (.loop [.c (0)] [12, 13] (.letI (.cmp .lss (.v 40) (.v 39)) (.ite (.v 41) (.need .lss (.v 40) (.v 37) (.need .lss (.v 40) (.v 37) (.letI (.get 14 (.v 40)) (.need .geq (.v 42) (.c (-9223372036854775808)) (.need .leq (.v 42) (.c 9223372036854775807) (.call 56 (Go.Sx.L2.tRemove).rel [.v 42] [16] 4 1 (.letI (.add (.v 40) (.c 1)) (.again [.v 47] [15, 17])))))))) (.exit (.letI (.cmp .lss (.v 4) (.c 0)) (.ite (.v 42) (.letI (.add (.v 29) (.c 1)) (.again [.v 43] [11, 15, 16])) (.letI (.cmp .leq (.c 2) (.v 4)) (.ite (.v 43) (.letI (.add (.v 29) (.c 1)) (.again [.v 44] [11, 15, 16])) (.letI (.cmp .eql (.v 4) (.c 0)) (.ite (.v 44) (.letI (.get 11 (.c 0)) (.letI (.cmp .eql (.v 45) (.c 0)) (.ite (.v 46) (.letI (.add (.v 29) (.c 1)) (.again [.v 47] [11, 15, 16])) (.letI (.sub (.v 45) (.c 1)) (.letL (.set 11 (.c 0) (.v 47)) (.letI (.get 17 (.c 0)) (.letI (.add (.v 29) (.c 1)) (.again [.v 49] [17, 15, 16])))))))) (.letI (.get 11 (.c 1)) (.letI (.cmp .eql (.v 45) (.c 0)) (.ite (.v 46) (.letI (.add (.v 29) (.c 1)) (.again [.v 47] [11, 15, 16])) (.letI (.sub (.v 45) (.c 1)) (.letL (.set 11 (.c 1) (.v 47)) (.letI (.get 17 (.c 1)) (.letI (.add (.v 29) (.c 1)) (.again [.v 49] [17, 15, 16])))))))))))))))))))) (.letI (.cmp .eql (.v 32) (.c 2)) (.ite (.v 37) (.fail 1) (.letI (.cmp .eql (.v 32) (.c 3)) (.ite (.v 38) (.fail 1) (.letI (.cmp .eql (.v 32) (.c 4)) (.ite (.v 39) (.fail 1) (.letI (.cmp .eql (.v 32) (.c 5)) (.ite (.v 40) (.fail 1) (.letI (.cmp .eql (.v 32) (.c 6)) (.ite (.v 41) (.fail 1) (.fail 1)))))))))))))))))))))) (.exit (.done [.v 22] [7, 11, 12, 13])))))))))))))))))))))))) (.fail 180)))))))
theorem fX_tree : (L2.fX).exe Tryz.prog (withC (withS (L2.cfg Tryz.prog) [L2.check_ L2.f_word_Check, L2.cAt, L2.cDer, L2.cRevoke, L2.cDrop, L2.tBy, L2.tRemove])) [{ f := L2.f_plain_Kernel_revoke, reg := 9, ints := [(63, 0, 64)], lists := [(0, [5, 0], some (0, 7)), (0, [4, 0], some (-9223372036854775808, 9223372036854775807)), (0, [4, 1], some (-9223372036854775808, 9223372036854775807))] }, { f := L2.f_plain_Kernel_revoke, reg := 12, ints := [(79, 0, 1000000)], lists := [(0, [4, 0], some (-9223372036854775808, 9223372036854775807)), (0, [4, 1], some (-9223372036854775808, 9223372036854775807))] }] 20 200 = fX_t := by kernel_rfl
theorem fX_vc (Q : List Int → List (List Int) → Prop) (v0 v1 : Int) (L0 L1 L2 L3 : List Int) : fX_t.dn ⟨Q, []⟩ 2 [v1, v0] 4 [L3, L2, L1, L0] = ((Go.Sx.L2.check_ Go.Sx.L2.f_word_Check).rel.pre [(5 : Int), (0 : Int), (0 : Int), (0 : Int), (0 : Int), (2 : Int)] [] ∧
(∀ v2 : Int, (Go.Sx.L2.check_ Go.Sx.L2.f_word_Check).rel.post [(5 : Int), (0 : Int), (0 : Int), (0 : Int), (0 : Int), (2 : Int)] [] [v2] [] → ((v2 ≠ (0 : Int)) → False) ∧
((v2 = (0 : Int)) → (Go.Sx.L2.cAt).rel.pre [(2 : Int), (64 : Int), (0 : Int), (0 : Int)] [L0] ∧
(∀ v4 : Int, ∀ v5 : Int, ∀ v6 : Int, ∀ v7 : Int, ∀ v8 : Int, (Go.Sx.L2.cAt).rel.post [(2 : Int), (64 : Int), (0 : Int), (0 : Int)] [L0] [v4, v5, v6, v7, v8] [] → (Go.Sx.L2.cRevoke).rel.pre [(2 : Int), (64 : Int), (0 : Int), (0 : Int)] [L0] ∧
(∀ v9 : Int, ∀ v10 : Int, ∀ v11 : Int, ∀ v12 : Int, ∀ v13 : Int, ∀ L4 : List Int, ∀ L5 : List Int, (Go.Sx.L2.cRevoke).rel.post [(2 : Int), (64 : Int), (0 : Int), (0 : Int)] [L0] [v9, v10, v11, v12, v13] [L4, L5] → ((v13 = (0 : Int)) → (Go.Sx.L2.cDrop).rel.pre [(2 : Int), (64 : Int), (0 : Int), (0 : Int)] [L5] ∧
(∀ v15 : Int, ∀ v16 : Int, ∀ v17 : Int, ∀ v18 : Int, ∀ v19 : Int, ∀ L6 : List Int, ∀ L7 : List Int, (Go.Sx.L2.cDrop).rel.post [(2 : Int), (64 : Int), (0 : Int), (0 : Int)] [L5] [v15, v16, v17, v18, v19] [L6, L7] → ((v16 = (0 : Int)) → (v9 ≤ v10) ∧ ∀ v21 : Int, v21 = (if v10 = 0 then (0 : Int) else v9) → ∃ (I0 : List Int → List (List Int) → Prop) (μ0 : List Int → List (List Int) → Nat), I0 [(0 : Int)] [L1, L2, L3] ∧
(∀ v22 : Int, ∀ L8 : List Int, ∀ L9 : List Int, ∀ L10 : List Int, I0 [v22] [L8, L9, L10] →
 ((v22 < v21) → (v10 ≠ (0 : Int)) ∧ (v22 < v9) ∧ ∀ v24 : Int, v24 = v22 * (2 : Int) → (v24 < v11) ∧ ∀ v25 : Int, v25 = (L4).getD (v24).toNat 0 → ∀ v26 : Int, v26 = v24 + (1 : Int) → (v26 < v11) ∧ ∀ v27 : Int, v27 = (L4).getD (v26).toNat 0 → ((v25 = (0 : Int)) → (Go.Sx.L2.tBy).rel.pre [v27] [L9] ∧
(∀ v29 : Int, ∀ v30 : Int, ∀ L11 : List Int, (Go.Sx.L2.tBy).rel.post [v27] [L9] [v29, v30] [L11] → ∀ v31 : Int, v31 = (if v30 = 0 then (0 : Int) else v29) → ∃ (I1 : List Int → List (List Int) → Prop) (μ1 : List Int → List (List Int) → Nat), I1 [(0 : Int)] [L9, L10] ∧
(∀ v32 : Int, ∀ L12 : List Int, ∀ L13 : List Int, I1 [v32] [L12, L13] →
 ((v32 < v31) → (v32 < v29) ∧ (v32 < v29) ∧ ∀ v34 : Int, v34 = (L11).getD (v32).toNat 0 → (((-9223372036854775808) : Int) ≤ v34) ∧ (v34 ≤ (9223372036854775807 : Int)) ∧ (Go.Sx.L2.tRemove).rel.pre [v34] [L12] ∧
(∀ v35 : Int, ∀ v36 : Int, ∀ v37 : Int, ∀ v38 : Int, ∀ L14 : List Int, (Go.Sx.L2.tRemove).rel.post [v34] [L12] [v35, v36, v37, v38] [L14] → ∀ v39 : Int, v39 = v32 + (1 : Int) → (I1 [v39] [L14, L13] ∧ μ1 [v39] [L14, L13] < μ1 [v32] [L12, L13]))) ∧
((v31 ≤ v32) → ((v4 < (0 : Int)) → ∀ v35 : Int, v35 = v22 + (1 : Int) → (I0 [v35] [L8, L12, L13] ∧ μ0 [v35] [L8, L12, L13] < μ0 [v22] [L8, L9, L10])) ∧
(((0 : Int) ≤ v4) → (((2 : Int) ≤ v4) → ∀ v36 : Int, v36 = v22 + (1 : Int) → (I0 [v36] [L8, L12, L13] ∧ μ0 [v36] [L8, L12, L13] < μ0 [v22] [L8, L9, L10])) ∧
((v4 < (2 : Int)) → ((v4 = (0 : Int)) → ∀ v37 : Int, v37 = (L8).getD ((0 : Int)).toNat 0 → ((v37 = (0 : Int)) → ∀ v39 : Int, v39 = v22 + (1 : Int) → (I0 [v39] [L8, L12, L13] ∧ μ0 [v39] [L8, L12, L13] < μ0 [v22] [L8, L9, L10])) ∧
((v37 ≠ (0 : Int)) → ∀ v39 : Int, v39 = v37 - (1 : Int) → ∀ L14 : List Int, L14 = (L8).set ((0 : Int)).toNat v39 → ∀ v40 : Int, v40 = (L14).getD ((0 : Int)).toNat 0 → ∀ v41 : Int, v41 = v22 + (1 : Int) → (I0 [v41] [L14, L12, L13] ∧ μ0 [v41] [L14, L12, L13] < μ0 [v22] [L8, L9, L10]))) ∧
((v4 ≠ (0 : Int)) → ∀ v37 : Int, v37 = (L8).getD ((1 : Int)).toNat 0 → ((v37 = (0 : Int)) → ∀ v39 : Int, v39 = v22 + (1 : Int) → (I0 [v39] [L8, L12, L13] ∧ μ0 [v39] [L8, L12, L13] < μ0 [v22] [L8, L9, L10])) ∧
((v37 ≠ (0 : Int)) → ∀ v39 : Int, v39 = v37 - (1 : Int) → ∀ L14 : List Int, L14 = (L8).set ((1 : Int)).toNat v39 → ∀ v40 : Int, v40 = (L14).getD ((1 : Int)).toNat 0 → ∀ v41 : Int, v41 = v22 + (1 : Int) → (I0 [v41] [L14, L12, L13] ∧ μ0 [v41] [L14, L12, L13] < μ0 [v22] [L8, L9, L10]))))))))) ∧
((v25 ≠ (0 : Int)) → ((v25 = (1 : Int)) → (Go.Sx.L2.tBy).rel.pre [v27] [L10] ∧
(∀ v30 : Int, ∀ v31 : Int, ∀ L11 : List Int, (Go.Sx.L2.tBy).rel.post [v27] [L10] [v30, v31] [L11] → ∀ v32 : Int, v32 = (if v31 = 0 then (0 : Int) else v30) → ∃ (I1 : List Int → List (List Int) → Prop) (μ1 : List Int → List (List Int) → Nat), I1 [(0 : Int)] [L9, L10] ∧
(∀ v33 : Int, ∀ L12 : List Int, ∀ L13 : List Int, I1 [v33] [L12, L13] →
 ((v33 < v32) → (v33 < v30) ∧ (v33 < v30) ∧ ∀ v35 : Int, v35 = (L11).getD (v33).toNat 0 → (((-9223372036854775808) : Int) ≤ v35) ∧ (v35 ≤ (9223372036854775807 : Int)) ∧ (Go.Sx.L2.tRemove).rel.pre [v35] [L13] ∧
(∀ v36 : Int, ∀ v37 : Int, ∀ v38 : Int, ∀ v39 : Int, ∀ L14 : List Int, (Go.Sx.L2.tRemove).rel.post [v35] [L13] [v36, v37, v38, v39] [L14] → ∀ v40 : Int, v40 = v33 + (1 : Int) → (I1 [v40] [L12, L14] ∧ μ1 [v40] [L12, L14] < μ1 [v33] [L12, L13]))) ∧
((v32 ≤ v33) → ((v4 < (0 : Int)) → ∀ v36 : Int, v36 = v22 + (1 : Int) → (I0 [v36] [L8, L12, L13] ∧ μ0 [v36] [L8, L12, L13] < μ0 [v22] [L8, L9, L10])) ∧
(((0 : Int) ≤ v4) → (((2 : Int) ≤ v4) → ∀ v37 : Int, v37 = v22 + (1 : Int) → (I0 [v37] [L8, L12, L13] ∧ μ0 [v37] [L8, L12, L13] < μ0 [v22] [L8, L9, L10])) ∧
((v4 < (2 : Int)) → ((v4 = (0 : Int)) → ∀ v38 : Int, v38 = (L8).getD ((0 : Int)).toNat 0 → ((v38 = (0 : Int)) → ∀ v40 : Int, v40 = v22 + (1 : Int) → (I0 [v40] [L8, L12, L13] ∧ μ0 [v40] [L8, L12, L13] < μ0 [v22] [L8, L9, L10])) ∧
((v38 ≠ (0 : Int)) → ∀ v40 : Int, v40 = v38 - (1 : Int) → ∀ L14 : List Int, L14 = (L8).set ((0 : Int)).toNat v40 → ∀ v41 : Int, v41 = (L14).getD ((0 : Int)).toNat 0 → ∀ v42 : Int, v42 = v22 + (1 : Int) → (I0 [v42] [L14, L12, L13] ∧ μ0 [v42] [L14, L12, L13] < μ0 [v22] [L8, L9, L10]))) ∧
((v4 ≠ (0 : Int)) → ∀ v38 : Int, v38 = (L8).getD ((1 : Int)).toNat 0 → ((v38 = (0 : Int)) → ∀ v40 : Int, v40 = v22 + (1 : Int) → (I0 [v40] [L8, L12, L13] ∧ μ0 [v40] [L8, L12, L13] < μ0 [v22] [L8, L9, L10])) ∧
((v38 ≠ (0 : Int)) → ∀ v40 : Int, v40 = v38 - (1 : Int) → ∀ L14 : List Int, L14 = (L8).set ((1 : Int)).toNat v40 → ∀ v41 : Int, v41 = (L14).getD ((1 : Int)).toNat 0 → ∀ v42 : Int, v42 = v22 + (1 : Int) → (I0 [v42] [L14, L12, L13] ∧ μ0 [v42] [L14, L12, L13] < μ0 [v22] [L8, L9, L10]))))))))) ∧
((v25 ≠ (1 : Int)) → ((v25 = (2 : Int)) → False) ∧
((v25 ≠ (2 : Int)) → ((v25 = (3 : Int)) → False) ∧
((v25 ≠ (3 : Int)) → ((v25 = (4 : Int)) → False) ∧
((v25 ≠ (4 : Int)) → ((v25 = (5 : Int)) → False) ∧
((v25 ≠ (5 : Int)) → ((v25 = (6 : Int)) → False) ∧
((v25 ≠ (6 : Int)) → False)))))))) ∧
((v21 ≤ v22) → Q [v21] [L7, L8, L9, L10]))) ∧
((v16 ≠ (0 : Int)) → ((v15 = (0 : Int)) → (v9 ≤ v10) ∧ ∀ v22 : Int, v22 = (if v10 = 0 then (0 : Int) else v9) → ∃ (I0 : List Int → List (List Int) → Prop) (μ0 : List Int → List (List Int) → Nat), I0 [(0 : Int)] [L1, L2, L3] ∧
(∀ v23 : Int, ∀ L8 : List Int, ∀ L9 : List Int, ∀ L10 : List Int, I0 [v23] [L8, L9, L10] →
 ((v23 < v22) → (v10 ≠ (0 : Int)) ∧ (v23 < v9) ∧ ∀ v25 : Int, v25 = v23 * (2 : Int) → (v25 < v11) ∧ ∀ v26 : Int, v26 = (L4).getD (v25).toNat 0 → ∀ v27 : Int, v27 = v25 + (1 : Int) → (v27 < v11) ∧ ∀ v28 : Int, v28 = (L4).getD (v27).toNat 0 → ((v26 = (0 : Int)) → (Go.Sx.L2.tBy).rel.pre [v28] [L9] ∧
(∀ v30 : Int, ∀ v31 : Int, ∀ L11 : List Int, (Go.Sx.L2.tBy).rel.post [v28] [L9] [v30, v31] [L11] → ∀ v32 : Int, v32 = (if v31 = 0 then (0 : Int) else v30) → ∃ (I1 : List Int → List (List Int) → Prop) (μ1 : List Int → List (List Int) → Nat), I1 [(0 : Int)] [L9, L10] ∧
(∀ v33 : Int, ∀ L12 : List Int, ∀ L13 : List Int, I1 [v33] [L12, L13] →
 ((v33 < v32) → (v33 < v30) ∧ (v33 < v30) ∧ ∀ v35 : Int, v35 = (L11).getD (v33).toNat 0 → (((-9223372036854775808) : Int) ≤ v35) ∧ (v35 ≤ (9223372036854775807 : Int)) ∧ (Go.Sx.L2.tRemove).rel.pre [v35] [L12] ∧
(∀ v36 : Int, ∀ v37 : Int, ∀ v38 : Int, ∀ v39 : Int, ∀ L14 : List Int, (Go.Sx.L2.tRemove).rel.post [v35] [L12] [v36, v37, v38, v39] [L14] → ∀ v40 : Int, v40 = v33 + (1 : Int) → (I1 [v40] [L14, L13] ∧ μ1 [v40] [L14, L13] < μ1 [v33] [L12, L13]))) ∧
((v32 ≤ v33) → ((v4 < (0 : Int)) → ∀ v36 : Int, v36 = v23 + (1 : Int) → (I0 [v36] [L8, L12, L13] ∧ μ0 [v36] [L8, L12, L13] < μ0 [v23] [L8, L9, L10])) ∧
(((0 : Int) ≤ v4) → (((2 : Int) ≤ v4) → ∀ v37 : Int, v37 = v23 + (1 : Int) → (I0 [v37] [L8, L12, L13] ∧ μ0 [v37] [L8, L12, L13] < μ0 [v23] [L8, L9, L10])) ∧
((v4 < (2 : Int)) → ((v4 = (0 : Int)) → ∀ v38 : Int, v38 = (L8).getD ((0 : Int)).toNat 0 → ((v38 = (0 : Int)) → ∀ v40 : Int, v40 = v23 + (1 : Int) → (I0 [v40] [L8, L12, L13] ∧ μ0 [v40] [L8, L12, L13] < μ0 [v23] [L8, L9, L10])) ∧
((v38 ≠ (0 : Int)) → ∀ v40 : Int, v40 = v38 - (1 : Int) → ∀ L14 : List Int, L14 = (L8).set ((0 : Int)).toNat v40 → ∀ v41 : Int, v41 = (L14).getD ((0 : Int)).toNat 0 → ∀ v42 : Int, v42 = v23 + (1 : Int) → (I0 [v42] [L14, L12, L13] ∧ μ0 [v42] [L14, L12, L13] < μ0 [v23] [L8, L9, L10]))) ∧
((v4 ≠ (0 : Int)) → ∀ v38 : Int, v38 = (L8).getD ((1 : Int)).toNat 0 → ((v38 = (0 : Int)) → ∀ v40 : Int, v40 = v23 + (1 : Int) → (I0 [v40] [L8, L12, L13] ∧ μ0 [v40] [L8, L12, L13] < μ0 [v23] [L8, L9, L10])) ∧
((v38 ≠ (0 : Int)) → ∀ v40 : Int, v40 = v38 - (1 : Int) → ∀ L14 : List Int, L14 = (L8).set ((1 : Int)).toNat v40 → ∀ v41 : Int, v41 = (L14).getD ((1 : Int)).toNat 0 → ∀ v42 : Int, v42 = v23 + (1 : Int) → (I0 [v42] [L14, L12, L13] ∧ μ0 [v42] [L14, L12, L13] < μ0 [v23] [L8, L9, L10]))))))))) ∧
((v26 ≠ (0 : Int)) → ((v26 = (1 : Int)) → (Go.Sx.L2.tBy).rel.pre [v28] [L10] ∧
(∀ v31 : Int, ∀ v32 : Int, ∀ L11 : List Int, (Go.Sx.L2.tBy).rel.post [v28] [L10] [v31, v32] [L11] → ∀ v33 : Int, v33 = (if v32 = 0 then (0 : Int) else v31) → ∃ (I1 : List Int → List (List Int) → Prop) (μ1 : List Int → List (List Int) → Nat), I1 [(0 : Int)] [L9, L10] ∧
(∀ v34 : Int, ∀ L12 : List Int, ∀ L13 : List Int, I1 [v34] [L12, L13] →
 ((v34 < v33) → (v34 < v31) ∧ (v34 < v31) ∧ ∀ v36 : Int, v36 = (L11).getD (v34).toNat 0 → (((-9223372036854775808) : Int) ≤ v36) ∧ (v36 ≤ (9223372036854775807 : Int)) ∧ (Go.Sx.L2.tRemove).rel.pre [v36] [L13] ∧
(∀ v37 : Int, ∀ v38 : Int, ∀ v39 : Int, ∀ v40 : Int, ∀ L14 : List Int, (Go.Sx.L2.tRemove).rel.post [v36] [L13] [v37, v38, v39, v40] [L14] → ∀ v41 : Int, v41 = v34 + (1 : Int) → (I1 [v41] [L12, L14] ∧ μ1 [v41] [L12, L14] < μ1 [v34] [L12, L13]))) ∧
((v33 ≤ v34) → ((v4 < (0 : Int)) → ∀ v37 : Int, v37 = v23 + (1 : Int) → (I0 [v37] [L8, L12, L13] ∧ μ0 [v37] [L8, L12, L13] < μ0 [v23] [L8, L9, L10])) ∧
(((0 : Int) ≤ v4) → (((2 : Int) ≤ v4) → ∀ v38 : Int, v38 = v23 + (1 : Int) → (I0 [v38] [L8, L12, L13] ∧ μ0 [v38] [L8, L12, L13] < μ0 [v23] [L8, L9, L10])) ∧
((v4 < (2 : Int)) → ((v4 = (0 : Int)) → ∀ v39 : Int, v39 = (L8).getD ((0 : Int)).toNat 0 → ((v39 = (0 : Int)) → ∀ v41 : Int, v41 = v23 + (1 : Int) → (I0 [v41] [L8, L12, L13] ∧ μ0 [v41] [L8, L12, L13] < μ0 [v23] [L8, L9, L10])) ∧
((v39 ≠ (0 : Int)) → ∀ v41 : Int, v41 = v39 - (1 : Int) → ∀ L14 : List Int, L14 = (L8).set ((0 : Int)).toNat v41 → ∀ v42 : Int, v42 = (L14).getD ((0 : Int)).toNat 0 → ∀ v43 : Int, v43 = v23 + (1 : Int) → (I0 [v43] [L14, L12, L13] ∧ μ0 [v43] [L14, L12, L13] < μ0 [v23] [L8, L9, L10]))) ∧
((v4 ≠ (0 : Int)) → ∀ v39 : Int, v39 = (L8).getD ((1 : Int)).toNat 0 → ((v39 = (0 : Int)) → ∀ v41 : Int, v41 = v23 + (1 : Int) → (I0 [v41] [L8, L12, L13] ∧ μ0 [v41] [L8, L12, L13] < μ0 [v23] [L8, L9, L10])) ∧
((v39 ≠ (0 : Int)) → ∀ v41 : Int, v41 = v39 - (1 : Int) → ∀ L14 : List Int, L14 = (L8).set ((1 : Int)).toNat v41 → ∀ v42 : Int, v42 = (L14).getD ((1 : Int)).toNat 0 → ∀ v43 : Int, v43 = v23 + (1 : Int) → (I0 [v43] [L14, L12, L13] ∧ μ0 [v43] [L14, L12, L13] < μ0 [v23] [L8, L9, L10]))))))))) ∧
((v26 ≠ (1 : Int)) → ((v26 = (2 : Int)) → False) ∧
((v26 ≠ (2 : Int)) → ((v26 = (3 : Int)) → False) ∧
((v26 ≠ (3 : Int)) → ((v26 = (4 : Int)) → False) ∧
((v26 ≠ (4 : Int)) → ((v26 = (5 : Int)) → False) ∧
((v26 ≠ (5 : Int)) → ((v26 = (6 : Int)) → False) ∧
((v26 ≠ (6 : Int)) → False)))))))) ∧
((v22 ≤ v23) → Q [v22] [L7, L8, L9, L10]))) ∧
((v15 ≠ (0 : Int)) → ∀ v22 : Int, v22 = v9 + v15 → ∀ v23 : Int, v23 = v15 * (2 : Int) → (v23 ≤ v17) ∧ ∀ L8 : List Int, L8 = (L6).take (v23).toNat → (v9 ≤ v10) ∧ ∀ v24 : Int, v24 = v9 * (2 : Int) → (v24 ≤ v11) ∧ ∀ v25 : Int, v25 = v10 * (2 : Int) → (v25 = v12) ∧ ∀ L9 : List Int, L9 = (L4).take (v24).toNat → ∀ L10 : List Int, L10 = L9 ++ L8 → ∀ v26 : Int, v22 ≤ v26 → v26 ≤ (9223372036854775807 : Int) → ∀ v27 : Int, v27 = v22 * (2 : Int) → ∀ v28 : Int, v28 = v26 * (2 : Int) → ∃ (I0 : List Int → List (List Int) → Prop) (μ0 : List Int → List (List Int) → Nat), I0 [(0 : Int)] [L1, L2, L3] ∧
(∀ v29 : Int, ∀ L11 : List Int, ∀ L12 : List Int, ∀ L13 : List Int, I0 [v29] [L11, L12, L13] →
 ((v29 < v22) → (v29 < v22) ∧ ∀ v31 : Int, v31 = v29 * (2 : Int) → (v31 < v27) ∧ ∀ v32 : Int, v32 = (L10).getD (v31).toNat 0 → ∀ v33 : Int, v33 = v31 + (1 : Int) → (v33 < v27) ∧ ∀ v34 : Int, v34 = (L10).getD (v33).toNat 0 → ((v32 = (0 : Int)) → (Go.Sx.L2.tBy).rel.pre [v34] [L12] ∧
(∀ v36 : Int, ∀ v37 : Int, ∀ L14 : List Int, (Go.Sx.L2.tBy).rel.post [v34] [L12] [v36, v37] [L14] → ∀ v38 : Int, v38 = (if v37 = 0 then (0 : Int) else v36) → ∃ (I1 : List Int → List (List Int) → Prop) (μ1 : List Int → List (List Int) → Nat), I1 [(0 : Int)] [L12, L13] ∧
(∀ v39 : Int, ∀ L15 : List Int, ∀ L16 : List Int, I1 [v39] [L15, L16] →
 ((v39 < v38) → (v39 < v36) ∧ (v39 < v36) ∧ ∀ v41 : Int, v41 = (L14).getD (v39).toNat 0 → (((-9223372036854775808) : Int) ≤ v41) ∧ (v41 ≤ (9223372036854775807 : Int)) ∧ (Go.Sx.L2.tRemove).rel.pre [v41] [L15] ∧
(∀ v42 : Int, ∀ v43 : Int, ∀ v44 : Int, ∀ v45 : Int, ∀ L17 : List Int, (Go.Sx.L2.tRemove).rel.post [v41] [L15] [v42, v43, v44, v45] [L17] → ∀ v46 : Int, v46 = v39 + (1 : Int) → (I1 [v46] [L17, L16] ∧ μ1 [v46] [L17, L16] < μ1 [v39] [L15, L16]))) ∧
((v38 ≤ v39) → ((v4 < (0 : Int)) → ∀ v42 : Int, v42 = v29 + (1 : Int) → (I0 [v42] [L11, L15, L16] ∧ μ0 [v42] [L11, L15, L16] < μ0 [v29] [L11, L12, L13])) ∧
(((0 : Int) ≤ v4) → (((2 : Int) ≤ v4) → ∀ v43 : Int, v43 = v29 + (1 : Int) → (I0 [v43] [L11, L15, L16] ∧ μ0 [v43] [L11, L15, L16] < μ0 [v29] [L11, L12, L13])) ∧
((v4 < (2 : Int)) → ((v4 = (0 : Int)) → ∀ v44 : Int, v44 = (L11).getD ((0 : Int)).toNat 0 → ((v44 = (0 : Int)) → ∀ v46 : Int, v46 = v29 + (1 : Int) → (I0 [v46] [L11, L15, L16] ∧ μ0 [v46] [L11, L15, L16] < μ0 [v29] [L11, L12, L13])) ∧
((v44 ≠ (0 : Int)) → ∀ v46 : Int, v46 = v44 - (1 : Int) → ∀ L17 : List Int, L17 = (L11).set ((0 : Int)).toNat v46 → ∀ v47 : Int, v47 = (L17).getD ((0 : Int)).toNat 0 → ∀ v48 : Int, v48 = v29 + (1 : Int) → (I0 [v48] [L17, L15, L16] ∧ μ0 [v48] [L17, L15, L16] < μ0 [v29] [L11, L12, L13]))) ∧
((v4 ≠ (0 : Int)) → ∀ v44 : Int, v44 = (L11).getD ((1 : Int)).toNat 0 → ((v44 = (0 : Int)) → ∀ v46 : Int, v46 = v29 + (1 : Int) → (I0 [v46] [L11, L15, L16] ∧ μ0 [v46] [L11, L15, L16] < μ0 [v29] [L11, L12, L13])) ∧
((v44 ≠ (0 : Int)) → ∀ v46 : Int, v46 = v44 - (1 : Int) → ∀ L17 : List Int, L17 = (L11).set ((1 : Int)).toNat v46 → ∀ v47 : Int, v47 = (L17).getD ((1 : Int)).toNat 0 → ∀ v48 : Int, v48 = v29 + (1 : Int) → (I0 [v48] [L17, L15, L16] ∧ μ0 [v48] [L17, L15, L16] < μ0 [v29] [L11, L12, L13]))))))))) ∧
((v32 ≠ (0 : Int)) → ((v32 = (1 : Int)) → (Go.Sx.L2.tBy).rel.pre [v34] [L13] ∧
(∀ v37 : Int, ∀ v38 : Int, ∀ L14 : List Int, (Go.Sx.L2.tBy).rel.post [v34] [L13] [v37, v38] [L14] → ∀ v39 : Int, v39 = (if v38 = 0 then (0 : Int) else v37) → ∃ (I1 : List Int → List (List Int) → Prop) (μ1 : List Int → List (List Int) → Nat), I1 [(0 : Int)] [L12, L13] ∧
(∀ v40 : Int, ∀ L15 : List Int, ∀ L16 : List Int, I1 [v40] [L15, L16] →
 ((v40 < v39) → (v40 < v37) ∧ (v40 < v37) ∧ ∀ v42 : Int, v42 = (L14).getD (v40).toNat 0 → (((-9223372036854775808) : Int) ≤ v42) ∧ (v42 ≤ (9223372036854775807 : Int)) ∧ (Go.Sx.L2.tRemove).rel.pre [v42] [L16] ∧
(∀ v43 : Int, ∀ v44 : Int, ∀ v45 : Int, ∀ v46 : Int, ∀ L17 : List Int, (Go.Sx.L2.tRemove).rel.post [v42] [L16] [v43, v44, v45, v46] [L17] → ∀ v47 : Int, v47 = v40 + (1 : Int) → (I1 [v47] [L15, L17] ∧ μ1 [v47] [L15, L17] < μ1 [v40] [L15, L16]))) ∧
((v39 ≤ v40) → ((v4 < (0 : Int)) → ∀ v43 : Int, v43 = v29 + (1 : Int) → (I0 [v43] [L11, L15, L16] ∧ μ0 [v43] [L11, L15, L16] < μ0 [v29] [L11, L12, L13])) ∧
(((0 : Int) ≤ v4) → (((2 : Int) ≤ v4) → ∀ v44 : Int, v44 = v29 + (1 : Int) → (I0 [v44] [L11, L15, L16] ∧ μ0 [v44] [L11, L15, L16] < μ0 [v29] [L11, L12, L13])) ∧
((v4 < (2 : Int)) → ((v4 = (0 : Int)) → ∀ v45 : Int, v45 = (L11).getD ((0 : Int)).toNat 0 → ((v45 = (0 : Int)) → ∀ v47 : Int, v47 = v29 + (1 : Int) → (I0 [v47] [L11, L15, L16] ∧ μ0 [v47] [L11, L15, L16] < μ0 [v29] [L11, L12, L13])) ∧
((v45 ≠ (0 : Int)) → ∀ v47 : Int, v47 = v45 - (1 : Int) → ∀ L17 : List Int, L17 = (L11).set ((0 : Int)).toNat v47 → ∀ v48 : Int, v48 = (L17).getD ((0 : Int)).toNat 0 → ∀ v49 : Int, v49 = v29 + (1 : Int) → (I0 [v49] [L17, L15, L16] ∧ μ0 [v49] [L17, L15, L16] < μ0 [v29] [L11, L12, L13]))) ∧
((v4 ≠ (0 : Int)) → ∀ v45 : Int, v45 = (L11).getD ((1 : Int)).toNat 0 → ((v45 = (0 : Int)) → ∀ v47 : Int, v47 = v29 + (1 : Int) → (I0 [v47] [L11, L15, L16] ∧ μ0 [v47] [L11, L15, L16] < μ0 [v29] [L11, L12, L13])) ∧
((v45 ≠ (0 : Int)) → ∀ v47 : Int, v47 = v45 - (1 : Int) → ∀ L17 : List Int, L17 = (L11).set ((1 : Int)).toNat v47 → ∀ v48 : Int, v48 = (L17).getD ((1 : Int)).toNat 0 → ∀ v49 : Int, v49 = v29 + (1 : Int) → (I0 [v49] [L17, L15, L16] ∧ μ0 [v49] [L17, L15, L16] < μ0 [v29] [L11, L12, L13]))))))))) ∧
((v32 ≠ (1 : Int)) → ((v32 = (2 : Int)) → False) ∧
((v32 ≠ (2 : Int)) → ((v32 = (3 : Int)) → False) ∧
((v32 ≠ (3 : Int)) → ((v32 = (4 : Int)) → False) ∧
((v32 ≠ (4 : Int)) → ((v32 = (5 : Int)) → False) ∧
((v32 ≠ (5 : Int)) → ((v32 = (6 : Int)) → False) ∧
((v32 ≠ (6 : Int)) → False)))))))) ∧
((v22 ≤ v29) → Q [v22] [L7, L11, L12, L13])))))) ∧
((v13 ≠ (0 : Int)) → False)))))) := by kernel_rfl
set_option maxHeartbeats 4000000 in
theorem fX_holds : (L2.fX).Holds Tryz.prog L2.ro := FSpec.holdsV (cfg := withC (withS (L2.cfg Tryz.prog) [L2.check_ L2.f_word_Check, L2.cAt, L2.cDer, L2.cRevoke, L2.cDrop, L2.tBy, L2.tRemove])) [{ f := L2.f_plain_Kernel_revoke, reg := 9, ints := [(63, 0, 64)], lists := [(0, [5, 0], some (0, 7)), (0, [4, 0], some (-9223372036854775808, 9223372036854775807)), (0, [4, 1], some (-9223372036854775808, 9223372036854775807))] }, { f := L2.f_plain_Kernel_revoke, reg := 12, ints := [(79, 0, 1000000)], lists := [(0, [4, 0], some (-9223372036854775808, 9223372036854775807)), (0, [4, 1], some (-9223372036854775808, 9223372036854775807))] }] 20 200 ff_ok mixed (t := fX_t) fX_tree (by
  show ∀ (v0 v1 : Int) (L0 L1 L2 L3 : List Int), _
  intro v0 v1 L0 L1 L2 L3 hp hr hl
  replace hr : (((2) : Int) ≤ v0 ∧ v0 ≤ ((9223372036854775807) : Int)) ∧ (((2) : Int) ≤ v1 ∧ v1 ≤ ((9223372036854775807) : Int)) ∧ True := hr
  replace hl : (∀ x ∈ L0, (((-9223372036854775808) : Int) ≤ x ∧ x ≤ ((9223372036854775807) : Int))) ∧ (∀ x ∈ L1, (((0) : Int) ≤ x ∧ x ≤ ((7) : Int))) ∧ (∀ x ∈ L2, (((-9223372036854775808) : Int) ≤ x ∧ x ≤ ((9223372036854775807) : Int))) ∧ (∀ x ∈ L3, (((-9223372036854775808) : Int) ≤ x ∧ x ≤ ((9223372036854775807) : Int))) ∧ True := hl
  show fX_t.dn ⟨_, []⟩ 2 [v1, v0] 4 [L3, L2, L1, L0]
  rw [fX_vc]
  obtain ⟨h, hR, hZ, hZ3⟩ := hp
  replace h : FS 7 L0 := h
  replace hR : L1 = [7, 0] := hR
  replace hZ : L2 = List.replicate 24 0 := hZ
  replace hZ3 : L3 = List.replicate 24 0 := hZ3
  subst hR hZ hZ3
  have hc : checkN 5 0 0 0 0 2 = 0 := by decide
  have hB := h.below
  have hD := h.drop
  obtain ⟨m1, m2⟩ := FS.emptied h 6 (by omega)
  have cvM : CV 2 (emptyC L0 (plK 7)) := h.emptiedCV
  have lk0 : lookE 2 L0 0 0 = 0 := by
    have := (h.cap 0 (by omega)).2
    unfold lookE
    rw [show cG L0 0 0 1 = 3 from this]; rfl
  have lkM : lookE 2 (emptyC L0 (plK 7)) 0 0 = 0 := by
    have : cG (emptyC L0 (plK 7)) 0 0 1 = 3 := (m2 0 0 1 (by omega) (by omega) (by omega)).trans (h.cap 0 (by omega)).2
    unfold lookE
    rw [this]; rfl
  have ok : capOk 2 L0 0 0 = true := by
    have : cG L0 0 0 1 = 3 := (h.cap 0 (by omega)).2
    simp only [capOk, plOk, this]
    simp
  have by0 : ∀ s : Int, byUp (List.replicate 24 0) s 8 = [] := fun s => by simp [byUp, tG]
  have lP : ((plK 7).length : Int) = 12 := rfl
  have pl : ∀ k : Nat, k < 6 → (plK 7).getD (2 * k) 0 = 0 := fun k hk => (plK_at 7 k (by omega)).1
  clear m1 m2
  generalize plK 7 = P at *
  generalize hM : emptyC L0 P = M at *
  have pq : ∀ k : Nat, k < 7 → (P ++ [0, 0]).getD (2 * k) 0 = 0 := fun k hk => by
    by_cases h6 : k < 6
    · rw [getD_left (by omega)]; exact pl k h6
    · have e : 2 * k - P.length = 0 := by omega
      rw [getD_right (by omega), e]; rfl
  refine ⟨trivial, fun v2 q2 => ⟨fun c => c ((List.cons.inj q2).1.trans hc), fun _ => ⟨rfl, fun v4 v5 v6 v7 v8 q4 => ?_⟩⟩⟩
  have e4 : v4 = 0 := by
    refine ((List.cons.inj q4.1).1).trans ?_
    show capV 2 L0 0 0 0 = 0
    rw [capV, if_pos ok]
    exact (h.cap 0 (by omega)).1
  subst e4
  refine ⟨⟨rfl, h.cv⟩, fun v9 v10 v11 v12 v13 L4 L5 qR => ?_⟩
  obtain ⟨a1, a2, a3, a4, a5, a6⟩ := qR
  replace a6 : [L4, L5] = if lookE 2 L0 0 0 = 0 then [belowL 2 L0 0 0, emptyC L0 (belowL 2 L0 0 0)] else [[], L0] := a6
  rw [if_pos lk0, hB, hM] at a6
  obtain ⟨b1, b2⟩ := List.cons.inj a6
  replace b2 := (List.cons.inj b2).1
  subst b1 b2
  replace a1 : v9 * 2 = (L4.length : Int) := a1
  replace a2 : v9 ≤ v10 := a2
  replace a3 : v11 = v9 * 2 := a3
  replace a4 : v12 = v10 * 2 := a4
  replace a5 : v13 = lookE 2 L0 0 0 := a5
  rw [lk0] at a5
  have v9e : v9 = 6 := by omega
  subst a3 a4 a5 v9e
  refine ⟨fun _ => ⟨⟨rfl, cvM⟩, fun v15 v16 v17 v18 v19 L6 L7 qD => ?_⟩, fun c => absurd rfl c⟩
  obtain ⟨a1, a2, a3, a4, a5, a6⟩ := qD
  replace a6 : [L6, L7] = if lookE 2 L5 0 0 = 0 then [dropL 2 L5 0 0, emptyC L5 (dropL 2 L5 0 0)] else [[], L5] := a6
  rw [if_pos lkM, hD] at a6
  obtain ⟨b1, b2⟩ := List.cons.inj a6
  replace b2 := (List.cons.inj b2).1
  subst b1
  replace a1 : v15 * 2 = (([0, 0] : List Int).length : Int) := a1
  replace a2 : v15 ≤ v16 := a2
  replace a3 : v17 = v15 * 2 := a3
  have l2 : (([0, 0] : List Int).length : Int) = 2 := rfl
  have v15e : v15 = 1 := by omega
  subst a3 v15e
  refine ⟨fun c => by omega, fun _ => ⟨fun c => by omega, fun _ v22 e22 v23 e23 => ⟨by omega, fun L8 e8 => ⟨by omega, fun v24 e24 => ⟨by omega, fun v25 e25 => ⟨by omega, fun L9 e9 L10 e10 v26 c1 c2 v27 e27 v28 e28 => ?_⟩⟩⟩⟩⟩⟩
  have w9 : L9 = L4 := by rw [e9, e24]; exact List.take_of_length_le (by omega)
  have w8 : L8 = [0, 0] := by rw [e8, e23]; rfl
  have w10 : L10 = L4 ++ [0, 0] := by rw [e10, w9, w8]
  have w22 : v22 = 7 := by omega
  clear e8 e9 e10 e22 w8 w9
  subst w10 w22
  refine ⟨fun is ls => match is, ls with | [i], [R, T0, T1] => 0 ≤ i ∧ i ≤ 7 ∧ R = [7 - i, 0] ∧ T0 = List.replicate 24 0 ∧ T1 = List.replicate 24 0 | _, _ => False, fun is _ => match is with | i :: _ => (7 - i).toNat | _ => 0, ⟨by omega, by omega, rfl, rfl, rfl⟩, fun v29 L11 L12 L13 inv => ?_⟩
  obtain ⟨i0, i7, iR, iT, iU⟩ := inv
  subst iR iT iU
  refine ⟨fun c29 => ⟨c29, fun v31 e31 => ⟨by omega, fun v32 e32 v33 e33 => ⟨by omega, fun v34 e34 => ⟨fun _ => ⟨trivial, fun v36 v37 L14 q14 v38 e38 => ?_⟩, fun c => absurd ?_ c⟩⟩⟩⟩, fun c29 => ?_⟩
  · have z := q14.1
    replace z : v36 = ((byUp (List.replicate 24 0) v34 8).length : Int) := z
    rw [by0] at z
    replace z : v36 = 0 := z
    have z38 : v38 = 0 := by rw [e38, z]; split <;> rfl
    subst z38
    refine ⟨fun is ls => match is, ls with | [i], [T0, T1] => i = 0 ∧ T0 = List.replicate 24 0 ∧ T1 = List.replicate 24 0 | _, _ => False, fun _ _ => 0, ⟨rfl, rfl, rfl⟩, fun v39 L15 L16 inv => ?_⟩
    obtain ⟨j0, jT, jU⟩ := inv
    subst j0 jT jU
    refine ⟨fun c => by omega, fun _ => ⟨fun c => by omega, fun _ => ⟨fun c => by omega, fun _ => ⟨fun _ v44 e44 => ?_, fun c => absurd rfl c⟩⟩⟩⟩
    replace e44 : v44 = 7 - v29 := e44
    refine ⟨fun c => by omega, fun _ v46 e46 L17 e17 v47 e47 v48 e48 => ⟨⟨by omega, by omega, ?_, rfl, rfl⟩, ?_⟩⟩
    · have a : v46 = 7 - v48 := by omega
      subst a
      exact e17
    · show (7 - v48).toNat < (7 - v29).toNat
      omega
  · have := pq v29.toNat (by omega)
    rw [e32, e31, show (v29 * 2).toNat = 2 * v29.toNat by omega]
    exact this
  · have a : v29 = 7 := by omega
    subst a
    exact ⟨rfl, rfl⟩)
end Go.Proofs.YtbpilohnhhbbpaaGreatDoor
