/- Contracts of a pool: where the first one stands; a frame let go; the free ones. -/
import Derived.Test.YtbpilohnhhbbpabGreatDoorL2Facts
import Derived.Test.YtbpilohnhhbbpabGreatDoorSxM7
import Derived.Test.YtbpilohnhhbbpabGreatDoorL2Po
set_option linter.unusedVariables false
set_option linter.constructorNameAsVariable false
set_option linter.unusedSimpArgs false
open Go Go.Sx
namespace Go.Proofs.YtbpilohnhhbbpabGreatDoor
set_option maxRecDepth 100000
noncomputable def sIdx_t : Tree := .loop [.c (0)] [] (.letI (.cmp .lss (.v 2) (.v 0)) (.ite (.v 3) (.need .lss (.v 2) (.v 0) (.need .lss (.v 2) (.v 0) (.letI (.get 0 (.v 2)) (.letI (.cmp .eql (.v 1) (.v 4)) (.ite (.v 5) (.exit (.done [.v 2] [])) (.letI (.add (.v 2) (.c 1)) (.again [.v 6] []))))))) (.exit (.done [.c (-1)] []))))
theorem sIdx_tree : (L2.sIdx).exe Tryz.prog (L2.cfg Tryz.prog) [{ f := L2.f_slices_Index_int, reg := 2, ints := [(8, 0, 16)] }] 20 200 = sIdx_t := by kernel_rfl
theorem sIdx_vc (Q : List Int → List (List Int) → Prop) (v0 v1 : Int) (L0 : List Int) : sIdx_t.dn ⟨Q, []⟩ 2 [v1, v0] 1 [L0] = (∃ (I0 : List Int → List (List Int) → Prop) (μ0 : List Int → List (List Int) → Nat), I0 [(0 : Int)] [] ∧
(∀ v2 : Int, I0 [v2] [] →
 ((v2 < v0) → (v2 < v0) ∧ (v2 < v0) ∧ ∀ v4 : Int, v4 = (L0).getD (v2).toNat 0 → ((v1 = v4) → Q [v2] []) ∧
((v1 ≠ v4) → ∀ v6 : Int, v6 = v2 + (1 : Int) → (I0 [v6] [] ∧ μ0 [v6] [] < μ0 [v2] []))) ∧
((v0 ≤ v2) → Q [((-1) : Int)] []))) := by kernel_rfl
set_option maxHeartbeats 4000000 in
theorem sIdx_holds : (L2.sIdx).Holds Tryz.prog L2.ro := FSpec.holdsV (cfg := L2.cfg Tryz.prog) [{ f := L2.f_slices_Index_int, reg := 2, ints := [(8, 0, 16)] }] 20 200 cfg_ok mixed (t := sIdx_t) sIdx_tree (by
  show ∀ (v0 v1 : Int) (L0 : List Int), _
  intro v0 v1 L0 hp hr hl
  replace hr : (((1) : Int) ≤ v0 ∧ v0 ≤ ((16) : Int)) ∧ (((-9223372036854775808) : Int) ≤ v1 ∧ v1 ≤ ((9223372036854775807) : Int)) ∧ True := hr
  replace hl : (∀ x ∈ L0, (((0) : Int) ≤ x ∧ x ≤ ((7) : Int))) ∧ True := hl
  show sIdx_t.dn ⟨_, []⟩ 2 [v1, v0] 1 [L0]
  rw [sIdx_vc]
  have hn : (L0.length : Int) = v0 := hp
  refine ⟨fun xs ys => match xs, ys with | [i], [] => 0 ≤ i ∧ i ≤ v0 ∧ ∀ j : Nat, (j : Int) < i → L0.getD j 0 ≠ v1 | _, _ => False, fun xs _ => match xs with | i :: _ => (v0 - i).toNat | _ => 0, ?_, ?_⟩ <;> dsimp only
  · exact ⟨by omega, by omega, fun j hj => by omega⟩
  · intro v2 hI
    obtain ⟨i0, i1, hj⟩ := hI
    obtain ⟨i, rfl⟩ : ∃ m : Nat, v2 = m := ⟨v2.toNat, by omega⟩
    refine ⟨fun c => ⟨c, c, fun v4 e4 => ⟨fun c2 => ?_, fun c2 v6 e6 => ⟨⟨by omega, by omega, fun j hj' => ?_⟩, by omega⟩⟩⟩, fun c => ?_⟩
    · exact ⟨show IdxP L0 v1 (i : Int) from .inl ⟨i, rfl, by omega, by rw [c2, e4, Int.toNat_natCast], fun j hj' => hj j (by omega)⟩, rfl⟩
    · by_cases h : j = i
      · subst h; rw [e4, Int.toNat_natCast] at c2; exact fun q => c2 q.symm
      · exact hj j (by omega)
    · exact ⟨show IdxP L0 v1 (-1) from .inr ⟨rfl, fun j hj' => hj j (by omega)⟩, rfl⟩)
noncomputable def pLet_t : Tree := .letI (.cmp .leq (.v 0) (.v 1)) (.ite (.v 2) (.done [.c (0), .c (0)] [0]) (.need .lss (.v 1) (.v 0) (.need .lss (.v 1) (.v 0) (.letI (.get 0 (.v 1)) (.letI (.cmp .eql (.v 3) (.c 0)) (.ite (.v 4) (.done [.c (0), .c (0)] [0]) (.need .lss (.v 1) (.v 0) (.need .lss (.v 1) (.v 0) (.letI (.sub (.v 3) (.c 1)) (.need .lss (.v 1) (.v 0) (.need .lss (.v 1) (.v 0) (.letL (.set 0 (.v 1) (.v 5)) (.need .lss (.v 1) (.v 0) (.need .lss (.v 1) (.v 0) (.letI (.get 1 (.v 1)) (.done [.v 6, .c (1)] [1]))))))))))))))))
theorem pLet_tree : (L2.pLet).exe Tryz.prog (L2.cfg Tryz.prog) [] 20 200 = pLet_t := by kernel_rfl
theorem pLet_vc (Q : List Int → List (List Int) → Prop) (v0 v1 : Int) (L0 : List Int) : pLet_t.dn ⟨Q, []⟩ 2 [v1, v0] 1 [L0] = (((v0 ≤ v1) → Q [(0 : Int), (0 : Int)] [L0]) ∧
((v1 < v0) → (v1 < v0) ∧ (v1 < v0) ∧ ∀ v3 : Int, v3 = (L0).getD (v1).toNat 0 → ((v3 = (0 : Int)) → Q [(0 : Int), (0 : Int)] [L0]) ∧
((v3 ≠ (0 : Int)) → (v1 < v0) ∧ (v1 < v0) ∧ ∀ v5 : Int, v5 = v3 - (1 : Int) → (v1 < v0) ∧ (v1 < v0) ∧ ∀ L1 : List Int, L1 = (L0).set (v1).toNat v5 → (v1 < v0) ∧ (v1 < v0) ∧ ∀ v6 : Int, v6 = (L1).getD (v1).toNat 0 → Q [v6, (1 : Int)] [L1]))) := by kernel_rfl
set_option maxHeartbeats 4000000 in
theorem pLet_holds : (L2.pLet).Holds Tryz.prog L2.ro := FSpec.holdsV (cfg := L2.cfg Tryz.prog) [] 20 200 cfg_ok mixed (t := pLet_t) pLet_tree (by
  show ∀ (v0 v1 : Int) (L0 : List Int), _
  intro v0 v1 L0 hp hr hl
  replace hr : (((1) : Int) ≤ v0 ∧ v0 ≤ ((16) : Int)) ∧ (((0) : Int) ≤ v1 ∧ v1 ≤ ((15) : Int)) ∧ True := hr
  replace hl : (∀ x ∈ L0, (((0) : Int) ≤ x ∧ x ≤ ((7) : Int))) ∧ True := hl
  show pLet_t.dn ⟨_, []⟩ 2 [v1, v0] 1 [L0]
  rw [pLet_vc]
  have hn : (L0.length : Int) = v0 := hp.1
  have hv : v1 < v0 := hp.2
  refine ⟨fun c => absurd c (by omega), fun c => ⟨c, c, fun v3 e3 => ⟨fun c2 => show LetP L0 v1 [0, 0] [L0] from .inl ⟨by rw [e3] at c2; exact c2, rfl, rfl⟩, fun c2 => ⟨c, c, fun v5 e5 => ⟨c, c, fun L1 e1 => ⟨c, c, fun v6 e6 => ?_⟩⟩⟩⟩⟩⟩
  show LetP L0 v1 [v6, 1] [L1]
  refine .inr ⟨by rw [e3] at c2; exact c2, ?_, by rw [e1, e5, e3]⟩
  rw [e6, e1, getD_setP (by omega), if_pos rfl, e5, e3])
noncomputable def pFree_t : Tree := .letL (.lit []) (.loop [.c (0), .c (0), .c (0)] [1] (.letI (.cmp .lss (.v 1) (.v 0)) (.ite (.v 4) (.need .lss (.v 1) (.v 0) (.need .lss (.v 1) (.v 0) (.letI (.get 0 (.v 1)) (.letI (.cmp .eql (.v 5) (.c 0)) (.ite (.v 6) (.letL (.lit [.v 1]) (.letI (.add (.v 2) (.c 1)) (.need .leq (.v 7) (.c 1000000) (.need .leq (.v 2) (.v 3) (.letL (.app 2 3) (.any (.v 7) (.c 9223372036854775807) (.letI (.add (.v 1) (.c 1)) (.again [.v 9, .v 7, .v 8] [4])))))))) (.letI (.add (.v 1) (.c 1)) (.again [.v 7, .v 2, .v 3] [2]))))))) (.exit (.done [.v 2, .v 3] [2])))))
theorem pFree_tree : (L2.pFree).exe Tryz.prog (L2.cfg Tryz.prog) [{ f := L2.f_pool_Pool_Free, reg := 5, ints := [(13, 0, 16)], vecs := [(3, some (0, 15))], nils := [(3, [.i .i64], L2.t_int)] }] 20 200 = pFree_t := by kernel_rfl
theorem pFree_vc (Q : List Int → List (List Int) → Prop) (v0 : Int) (L0 : List Int) : pFree_t.dn ⟨Q, []⟩ 1 [v0] 1 [L0] = (∀ L1 : List Int, L1 = [] → ∃ (I0 : List Int → List (List Int) → Prop) (μ0 : List Int → List (List Int) → Nat), I0 [(0 : Int), (0 : Int), (0 : Int)] [L1] ∧
(∀ v1 : Int, ∀ v2 : Int, ∀ v3 : Int, ∀ L2 : List Int, I0 [v1, v2, v3] [L2] →
 ((v1 < v0) → (v1 < v0) ∧ (v1 < v0) ∧ ∀ v5 : Int, v5 = (L0).getD (v1).toNat 0 → ((v5 = (0 : Int)) → ∀ L3 : List Int, L3 = [v1] → ∀ v7 : Int, v7 = v2 + (1 : Int) → (v7 ≤ (1000000 : Int)) ∧ (v2 ≤ v3) ∧ ∀ L4 : List Int, L4 = L2 ++ L3 → ∀ v8 : Int, v7 ≤ v8 → v8 ≤ (9223372036854775807 : Int) → ∀ v9 : Int, v9 = v1 + (1 : Int) → (I0 [v9, v7, v8] [L4] ∧ μ0 [v9, v7, v8] [L4] < μ0 [v1, v2, v3] [L2])) ∧
((v5 ≠ (0 : Int)) → ∀ v7 : Int, v7 = v1 + (1 : Int) → (I0 [v7, v2, v3] [L2] ∧ μ0 [v7, v2, v3] [L2] < μ0 [v1, v2, v3] [L2]))) ∧
((v0 ≤ v1) → Q [v2, v3] [L2]))) := by kernel_rfl
set_option maxHeartbeats 4000000 in
theorem pFree_holds : (L2.pFree).Holds Tryz.prog L2.ro := FSpec.holdsV (cfg := L2.cfg Tryz.prog) [{ f := L2.f_pool_Pool_Free, reg := 5, ints := [(13, 0, 16)], vecs := [(3, some (0, 15))], nils := [(3, [.i .i64], L2.t_int)] }] 20 200 cfg_ok mixed (t := pFree_t) pFree_tree (by
  show ∀ (v0 : Int) (L0 : List Int), _
  intro v0 L0 hp hr hl
  replace hr : (((1) : Int) ≤ v0 ∧ v0 ≤ ((16) : Int)) ∧ True := hr
  replace hl : (∀ x ∈ L0, (((0) : Int) ≤ x ∧ x ≤ ((7) : Int))) ∧ True := hl
  show pFree_t.dn ⟨_, []⟩ 1 [v0] 1 [L0]
  rw [pFree_vc]
  have hn : (L0.length : Int) = v0 := hp
  intro L1 e1
  refine ⟨fun xs ys => match xs, ys with | [i, n, c], [L] => 0 ≤ i ∧ i ≤ v0 ∧ 0 ≤ n ∧ n ≤ i ∧ n ≤ c ∧ (NoP L0 → n = 0) | _, _ => False, fun xs _ => match xs with | i :: _ => (v0 - i).toNat | _ => 0, ?_, ?_⟩ <;> dsimp only
  · exact ⟨by omega, by omega, by omega, by omega, by omega, fun _ => rfl⟩
  · intro v1 v2 v3 L2 hI
    obtain ⟨i0, i1, n0, n1, nc, hz⟩ := hI
    obtain ⟨i, rfl⟩ : ∃ m : Nat, v1 = m := ⟨v1.toNat, by omega⟩
    refine ⟨fun c => ⟨c, c, fun v5 e5 => ⟨fun c2 L3 e3 v7 e7 => ⟨by omega, nc, fun L4 e4 v8 h8 h8' v9 e9 => ⟨⟨by omega, by omega, by omega, by omega, by omega, fun hN => ?_⟩, by omega⟩⟩, fun c2 v7 e7 => ⟨⟨by omega, by omega, by omega, by omega, nc, hz⟩, by omega⟩⟩⟩, fun c => hz⟩
    exact absurd (by rw [e5, Int.toNat_natCast] at c2; exact c2) (hN i (by omega)))
end Go.Proofs.YtbpilohnhhbbpabGreatDoor
