/- Contract of a memory of sixteen frames. -/
import Derived.Test.YtbpilohnhhbbpabGreatDoorL2Facts
import Derived.Test.YtbpilohnhhbbpabGreatDoorSxM7
import Derived.Test.YtbpilohnhhbbpabGreatDoorL2Mo
import Derived.Test.YtbpilohnhhbbpabGreatDoorPuMo
set_option linter.unusedVariables false
set_option linter.constructorNameAsVariable false
set_option linter.unusedSimpArgs false
open Go Go.Sx
namespace Go.Proofs.YtbpilohnhhbbpabGreatDoor
set_option maxRecDepth 100000
noncomputable def mSt_t : Tree := .letI (.cmp .eql (.v 1) (.c 0)) (.ite (.v 4) (.letL (.set 0 (.v 2) (.v 3)) (.done [] [16, 1, 2, 3, 4, 5, 6, 7, 8, 9, 10, 11, 12, 13, 14, 15])) (.letI (.cmp .eql (.v 1) (.c 1)) (.ite (.v 5) (.letL (.set 1 (.v 2) (.v 3)) (.done [] [0, 16, 2, 3, 4, 5, 6, 7, 8, 9, 10, 11, 12, 13, 14, 15])) (.letI (.cmp .eql (.v 1) (.c 2)) (.ite (.v 6) (.letL (.set 2 (.v 2) (.v 3)) (.done [] [0, 1, 16, 3, 4, 5, 6, 7, 8, 9, 10, 11, 12, 13, 14, 15])) (.letI (.cmp .eql (.v 1) (.c 3)) (.ite (.v 7) (.letL (.set 3 (.v 2) (.v 3)) (.done [] [0, 1, 2, 16, 4, 5, 6, 7, 8, 9, 10, 11, 12, 13, 14, 15])) (.letI (.cmp .eql (.v 1) (.c 4)) (.ite (.v 8) (.letL (.set 4 (.v 2) (.v 3)) (.done [] [0, 1, 2, 3, 16, 5, 6, 7, 8, 9, 10, 11, 12, 13, 14, 15])) (.letI (.cmp .eql (.v 1) (.c 5)) (.ite (.v 9) (.letL (.set 5 (.v 2) (.v 3)) (.done [] [0, 1, 2, 3, 4, 16, 6, 7, 8, 9, 10, 11, 12, 13, 14, 15])) (.letI (.cmp .eql (.v 1) (.c 6)) (.ite (.v 10) (.letL (.set 6 (.v 2) (.v 3)) (.done [] [0, 1, 2, 3, 4, 5, 16, 7, 8, 9, 10, 11, 12, 13, 14, 15])) (.letI (.cmp .eql (.v 1) (.c 7)) (.ite (.v 11) (.letL (.set 7 (.v 2) (.v 3)) (.done [] [0, 1, 2, 3, 4, 5, 6, 16, 8, 9, 10, 11, 12, 13, 14, 15])) (.letI (.cmp .eql (.v 1) (.c 8)) (.ite (.v 12) (.letL (.set 8 (.v 2) (.v 3)) (.done [] [0, 1, 2, 3, 4, 5, 6, 7, 16, 9, 10, 11, 12, 13, 14, 15])) (.letI (.cmp .eql (.v 1) (.c 9)) (.ite (.v 13) (.letL (.set 9 (.v 2) (.v 3)) (.done [] [0, 1, 2, 3, 4, 5, 6, 7, 8, 16, 10, 11, 12, 13, 14, 15])) (.letI (.cmp .eql (.v 1) (.c 10)) (.ite (.v 14) (.letL (.set 10 (.v 2) (.v 3)) (.done [] [0, 1, 2, 3, 4, 5, 6, 7, 8, 9, 16, 11, 12, 13, 14, 15])) (.letI (.cmp .eql (.v 1) (.c 11)) (.ite (.v 15) (.letL (.set 11 (.v 2) (.v 3)) (.done [] [0, 1, 2, 3, 4, 5, 6, 7, 8, 9, 10, 16, 12, 13, 14, 15])) (.letI (.cmp .eql (.v 1) (.c 12)) (.ite (.v 16) (.letL (.set 12 (.v 2) (.v 3)) (.done [] [0, 1, 2, 3, 4, 5, 6, 7, 8, 9, 10, 11, 16, 13, 14, 15])) (.letI (.cmp .eql (.v 1) (.c 13)) (.ite (.v 17) (.letL (.set 13 (.v 2) (.v 3)) (.done [] [0, 1, 2, 3, 4, 5, 6, 7, 8, 9, 10, 11, 12, 16, 14, 15])) (.letI (.cmp .eql (.v 1) (.c 14)) (.ite (.v 18) (.letL (.set 14 (.v 2) (.v 3)) (.done [] [0, 1, 2, 3, 4, 5, 6, 7, 8, 9, 10, 11, 12, 13, 16, 15])) (.letL (.set 15 (.v 2) (.v 3)) (.done [] [0, 1, 2, 3, 4, 5, 6, 7, 8, 9, 10, 11, 12, 13, 14, 16])))))))))))))))))))))))))))))))
theorem mSt_tree : (L2.mSt).exe Tryz.prog (L2.cfg Tryz.prog) [] 20 200 = mSt_t := by kernel_rfl
theorem mSt_vc (Q : List Int → List (List Int) → Prop) (v0 v1 v2 v3 : Int) (L0 L1 L2 L3 L4 L5 L6 L7 L8 L9 L10 L11 L12 L13 L14 L15 : List Int) : mSt_t.dn ⟨Q, []⟩ 4 [v3, v2, v1, v0] 16 [L15, L14, L13, L12, L11, L10, L9, L8, L7, L6, L5, L4, L3, L2, L1, L0] = (((v1 = (0 : Int)) → ∀ L16 : List Int, L16 = (L0).set (v2).toNat v3 → Q [] [L16, L1, L2, L3, L4, L5, L6, L7, L8, L9, L10, L11, L12, L13, L14, L15]) ∧
((v1 ≠ (0 : Int)) → ((v1 = (1 : Int)) → ∀ L16 : List Int, L16 = (L1).set (v2).toNat v3 → Q [] [L0, L16, L2, L3, L4, L5, L6, L7, L8, L9, L10, L11, L12, L13, L14, L15]) ∧
((v1 ≠ (1 : Int)) → ((v1 = (2 : Int)) → ∀ L16 : List Int, L16 = (L2).set (v2).toNat v3 → Q [] [L0, L1, L16, L3, L4, L5, L6, L7, L8, L9, L10, L11, L12, L13, L14, L15]) ∧
((v1 ≠ (2 : Int)) → ((v1 = (3 : Int)) → ∀ L16 : List Int, L16 = (L3).set (v2).toNat v3 → Q [] [L0, L1, L2, L16, L4, L5, L6, L7, L8, L9, L10, L11, L12, L13, L14, L15]) ∧
((v1 ≠ (3 : Int)) → ((v1 = (4 : Int)) → ∀ L16 : List Int, L16 = (L4).set (v2).toNat v3 → Q [] [L0, L1, L2, L3, L16, L5, L6, L7, L8, L9, L10, L11, L12, L13, L14, L15]) ∧
((v1 ≠ (4 : Int)) → ((v1 = (5 : Int)) → ∀ L16 : List Int, L16 = (L5).set (v2).toNat v3 → Q [] [L0, L1, L2, L3, L4, L16, L6, L7, L8, L9, L10, L11, L12, L13, L14, L15]) ∧
((v1 ≠ (5 : Int)) → ((v1 = (6 : Int)) → ∀ L16 : List Int, L16 = (L6).set (v2).toNat v3 → Q [] [L0, L1, L2, L3, L4, L5, L16, L7, L8, L9, L10, L11, L12, L13, L14, L15]) ∧
((v1 ≠ (6 : Int)) → ((v1 = (7 : Int)) → ∀ L16 : List Int, L16 = (L7).set (v2).toNat v3 → Q [] [L0, L1, L2, L3, L4, L5, L6, L16, L8, L9, L10, L11, L12, L13, L14, L15]) ∧
((v1 ≠ (7 : Int)) → ((v1 = (8 : Int)) → ∀ L16 : List Int, L16 = (L8).set (v2).toNat v3 → Q [] [L0, L1, L2, L3, L4, L5, L6, L7, L16, L9, L10, L11, L12, L13, L14, L15]) ∧
((v1 ≠ (8 : Int)) → ((v1 = (9 : Int)) → ∀ L16 : List Int, L16 = (L9).set (v2).toNat v3 → Q [] [L0, L1, L2, L3, L4, L5, L6, L7, L8, L16, L10, L11, L12, L13, L14, L15]) ∧
((v1 ≠ (9 : Int)) → ((v1 = (10 : Int)) → ∀ L16 : List Int, L16 = (L10).set (v2).toNat v3 → Q [] [L0, L1, L2, L3, L4, L5, L6, L7, L8, L9, L16, L11, L12, L13, L14, L15]) ∧
((v1 ≠ (10 : Int)) → ((v1 = (11 : Int)) → ∀ L16 : List Int, L16 = (L11).set (v2).toNat v3 → Q [] [L0, L1, L2, L3, L4, L5, L6, L7, L8, L9, L10, L16, L12, L13, L14, L15]) ∧
((v1 ≠ (11 : Int)) → ((v1 = (12 : Int)) → ∀ L16 : List Int, L16 = (L12).set (v2).toNat v3 → Q [] [L0, L1, L2, L3, L4, L5, L6, L7, L8, L9, L10, L11, L16, L13, L14, L15]) ∧
((v1 ≠ (12 : Int)) → ((v1 = (13 : Int)) → ∀ L16 : List Int, L16 = (L13).set (v2).toNat v3 → Q [] [L0, L1, L2, L3, L4, L5, L6, L7, L8, L9, L10, L11, L12, L16, L14, L15]) ∧
((v1 ≠ (13 : Int)) → ((v1 = (14 : Int)) → ∀ L16 : List Int, L16 = (L14).set (v2).toNat v3 → Q [] [L0, L1, L2, L3, L4, L5, L6, L7, L8, L9, L10, L11, L12, L13, L16, L15]) ∧
((v1 ≠ (14 : Int)) → ∀ L16 : List Int, L16 = (L15).set (v2).toNat v3 → Q [] [L0, L1, L2, L3, L4, L5, L6, L7, L8, L9, L10, L11, L12, L13, L14, L16])))))))))))))))) := by kernel_rfl
set_option maxHeartbeats 4000000 in
theorem mSt_holds : (L2.mSt).Holds Tryz.prog L2.ro := FSpec.holdsV (cfg := L2.cfg Tryz.prog) [] 20 200 cfg_ok mixed (t := mSt_t) mSt_tree (by
  show ∀ (v0 v1 v2 v3 : Int) (L0 L1 L2 L3 L4 L5 L6 L7 L8 L9 L10 L11 L12 L13 L14 L15 : List Int), _
  intro v0 v1 v2 v3 L0 L1 L2 L3 L4 L5 L6 L7 L8 L9 L10 L11 L12 L13 L14 L15 hp hr hl
  replace hr : (((16) : Int) ≤ v0 ∧ v0 ≤ ((9223372036854775807) : Int)) ∧ (((0) : Int) ≤ v1 ∧ v1 ≤ ((15) : Int)) ∧ (((0) : Int) ≤ v2 ∧ v2 ≤ ((15) : Int)) ∧ (((0) : Int) ≤ v3 ∧ v3 ≤ ((18446744073709551615) : Int)) ∧ True := hr
  replace hl : (∀ x ∈ L0, (((0) : Int) ≤ x ∧ x ≤ ((18446744073709551615) : Int))) ∧ (∀ x ∈ L1, (((0) : Int) ≤ x ∧ x ≤ ((18446744073709551615) : Int))) ∧ (∀ x ∈ L2, (((0) : Int) ≤ x ∧ x ≤ ((18446744073709551615) : Int))) ∧ (∀ x ∈ L3, (((0) : Int) ≤ x ∧ x ≤ ((18446744073709551615) : Int))) ∧ (∀ x ∈ L4, (((0) : Int) ≤ x ∧ x ≤ ((18446744073709551615) : Int))) ∧ (∀ x ∈ L5, (((0) : Int) ≤ x ∧ x ≤ ((18446744073709551615) : Int))) ∧ (∀ x ∈ L6, (((0) : Int) ≤ x ∧ x ≤ ((18446744073709551615) : Int))) ∧ (∀ x ∈ L7, (((0) : Int) ≤ x ∧ x ≤ ((18446744073709551615) : Int))) ∧ (∀ x ∈ L8, (((0) : Int) ≤ x ∧ x ≤ ((18446744073709551615) : Int))) ∧ (∀ x ∈ L9, (((0) : Int) ≤ x ∧ x ≤ ((18446744073709551615) : Int))) ∧ (∀ x ∈ L10, (((0) : Int) ≤ x ∧ x ≤ ((18446744073709551615) : Int))) ∧ (∀ x ∈ L11, (((0) : Int) ≤ x ∧ x ≤ ((18446744073709551615) : Int))) ∧ (∀ x ∈ L12, (((0) : Int) ≤ x ∧ x ≤ ((18446744073709551615) : Int))) ∧ (∀ x ∈ L13, (((0) : Int) ≤ x ∧ x ≤ ((18446744073709551615) : Int))) ∧ (∀ x ∈ L14, (((0) : Int) ≤ x ∧ x ≤ ((18446744073709551615) : Int))) ∧ (∀ x ∈ L15, (((0) : Int) ≤ x ∧ x ≤ ((18446744073709551615) : Int))) ∧ True := hl
  show mSt_t.dn ⟨_, []⟩ 4 [v3, v2, v1, v0] 16 [L15, L14, L13, L12, L11, L10, L9, L8, L7, L6, L5, L4, L3, L2, L1, L0]
  rw [mSt_vc]
  clear hl
  refine ⟨fun e => ?_, fun e0 => ?_⟩
  · intro L16 e16
    exact mo_set (Ls := [L0, L1, L2, L3, L4, L5, L6, L7, L8, L9, L10, L11, L12, L13, L14, L15]) (f := v1) (j := 0) (g := fun i => (List.getD [L0, L1, L2, L3, L4, L5, L6, L7, L8, L9, L10, L11, L12, L13, L14, L15] i []).set v2.toNat v3) rfl (by decide) e e16
  refine ⟨fun e => ?_, fun e1 => ?_⟩
  · intro L16 e16
    exact mo_set (Ls := [L0, L1, L2, L3, L4, L5, L6, L7, L8, L9, L10, L11, L12, L13, L14, L15]) (f := v1) (j := 1) (g := fun i => (List.getD [L0, L1, L2, L3, L4, L5, L6, L7, L8, L9, L10, L11, L12, L13, L14, L15] i []).set v2.toNat v3) rfl (by decide) e e16
  refine ⟨fun e => ?_, fun e2 => ?_⟩
  · intro L16 e16
    exact mo_set (Ls := [L0, L1, L2, L3, L4, L5, L6, L7, L8, L9, L10, L11, L12, L13, L14, L15]) (f := v1) (j := 2) (g := fun i => (List.getD [L0, L1, L2, L3, L4, L5, L6, L7, L8, L9, L10, L11, L12, L13, L14, L15] i []).set v2.toNat v3) rfl (by decide) e e16
  refine ⟨fun e => ?_, fun e3 => ?_⟩
  · intro L16 e16
    exact mo_set (Ls := [L0, L1, L2, L3, L4, L5, L6, L7, L8, L9, L10, L11, L12, L13, L14, L15]) (f := v1) (j := 3) (g := fun i => (List.getD [L0, L1, L2, L3, L4, L5, L6, L7, L8, L9, L10, L11, L12, L13, L14, L15] i []).set v2.toNat v3) rfl (by decide) e e16
  refine ⟨fun e => ?_, fun e4 => ?_⟩
  · intro L16 e16
    exact mo_set (Ls := [L0, L1, L2, L3, L4, L5, L6, L7, L8, L9, L10, L11, L12, L13, L14, L15]) (f := v1) (j := 4) (g := fun i => (List.getD [L0, L1, L2, L3, L4, L5, L6, L7, L8, L9, L10, L11, L12, L13, L14, L15] i []).set v2.toNat v3) rfl (by decide) e e16
  refine ⟨fun e => ?_, fun e5 => ?_⟩
  · intro L16 e16
    exact mo_set (Ls := [L0, L1, L2, L3, L4, L5, L6, L7, L8, L9, L10, L11, L12, L13, L14, L15]) (f := v1) (j := 5) (g := fun i => (List.getD [L0, L1, L2, L3, L4, L5, L6, L7, L8, L9, L10, L11, L12, L13, L14, L15] i []).set v2.toNat v3) rfl (by decide) e e16
  refine ⟨fun e => ?_, fun e6 => ?_⟩
  · intro L16 e16
    exact mo_set (Ls := [L0, L1, L2, L3, L4, L5, L6, L7, L8, L9, L10, L11, L12, L13, L14, L15]) (f := v1) (j := 6) (g := fun i => (List.getD [L0, L1, L2, L3, L4, L5, L6, L7, L8, L9, L10, L11, L12, L13, L14, L15] i []).set v2.toNat v3) rfl (by decide) e e16
  refine ⟨fun e => ?_, fun e7 => ?_⟩
  · intro L16 e16
    exact mo_set (Ls := [L0, L1, L2, L3, L4, L5, L6, L7, L8, L9, L10, L11, L12, L13, L14, L15]) (f := v1) (j := 7) (g := fun i => (List.getD [L0, L1, L2, L3, L4, L5, L6, L7, L8, L9, L10, L11, L12, L13, L14, L15] i []).set v2.toNat v3) rfl (by decide) e e16
  refine ⟨fun e => ?_, fun e8 => ?_⟩
  · intro L16 e16
    exact mo_set (Ls := [L0, L1, L2, L3, L4, L5, L6, L7, L8, L9, L10, L11, L12, L13, L14, L15]) (f := v1) (j := 8) (g := fun i => (List.getD [L0, L1, L2, L3, L4, L5, L6, L7, L8, L9, L10, L11, L12, L13, L14, L15] i []).set v2.toNat v3) rfl (by decide) e e16
  refine ⟨fun e => ?_, fun e9 => ?_⟩
  · intro L16 e16
    exact mo_set (Ls := [L0, L1, L2, L3, L4, L5, L6, L7, L8, L9, L10, L11, L12, L13, L14, L15]) (f := v1) (j := 9) (g := fun i => (List.getD [L0, L1, L2, L3, L4, L5, L6, L7, L8, L9, L10, L11, L12, L13, L14, L15] i []).set v2.toNat v3) rfl (by decide) e e16
  refine ⟨fun e => ?_, fun e10 => ?_⟩
  · intro L16 e16
    exact mo_set (Ls := [L0, L1, L2, L3, L4, L5, L6, L7, L8, L9, L10, L11, L12, L13, L14, L15]) (f := v1) (j := 10) (g := fun i => (List.getD [L0, L1, L2, L3, L4, L5, L6, L7, L8, L9, L10, L11, L12, L13, L14, L15] i []).set v2.toNat v3) rfl (by decide) e e16
  refine ⟨fun e => ?_, fun e11 => ?_⟩
  · intro L16 e16
    exact mo_set (Ls := [L0, L1, L2, L3, L4, L5, L6, L7, L8, L9, L10, L11, L12, L13, L14, L15]) (f := v1) (j := 11) (g := fun i => (List.getD [L0, L1, L2, L3, L4, L5, L6, L7, L8, L9, L10, L11, L12, L13, L14, L15] i []).set v2.toNat v3) rfl (by decide) e e16
  refine ⟨fun e => ?_, fun e12 => ?_⟩
  · intro L16 e16
    exact mo_set (Ls := [L0, L1, L2, L3, L4, L5, L6, L7, L8, L9, L10, L11, L12, L13, L14, L15]) (f := v1) (j := 12) (g := fun i => (List.getD [L0, L1, L2, L3, L4, L5, L6, L7, L8, L9, L10, L11, L12, L13, L14, L15] i []).set v2.toNat v3) rfl (by decide) e e16
  refine ⟨fun e => ?_, fun e13 => ?_⟩
  · intro L16 e16
    exact mo_set (Ls := [L0, L1, L2, L3, L4, L5, L6, L7, L8, L9, L10, L11, L12, L13, L14, L15]) (f := v1) (j := 13) (g := fun i => (List.getD [L0, L1, L2, L3, L4, L5, L6, L7, L8, L9, L10, L11, L12, L13, L14, L15] i []).set v2.toNat v3) rfl (by decide) e e16
  refine ⟨fun e => ?_, fun e14 => ?_⟩
  · intro L16 e16
    exact mo_set (Ls := [L0, L1, L2, L3, L4, L5, L6, L7, L8, L9, L10, L11, L12, L13, L14, L15]) (f := v1) (j := 14) (g := fun i => (List.getD [L0, L1, L2, L3, L4, L5, L6, L7, L8, L9, L10, L11, L12, L13, L14, L15] i []).set v2.toNat v3) rfl (by decide) e e16
  have e : v1 = 15 := by omega
  intro L16 e16
  exact mo_set (Ls := [L0, L1, L2, L3, L4, L5, L6, L7, L8, L9, L10, L11, L12, L13, L14, L15]) (f := v1) (j := 15) (g := fun i => (List.getD [L0, L1, L2, L3, L4, L5, L6, L7, L8, L9, L10, L11, L12, L13, L14, L15] i []).set v2.toNat v3) rfl (by decide) e e16)
end Go.Proofs.YtbpilohnhhbbpabGreatDoor
