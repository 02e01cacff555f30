/- Contracts of a pool: the least free frame taken; the free ones as bits. -/
import Derived.Test.YtbpilohnhhbbpabGreatDoorL2Po1
set_option linter.unusedVariables false
set_option linter.constructorNameAsVariable false
set_option linter.unusedSimpArgs false
open Go Go.Sx
namespace Go.Proofs.YtbpilohnhhbbpabGreatDoor
set_option maxRecDepth 100000
theorem po2_ok : (withS (L2.cfg Tryz.prog) [L2.sIdx, L2.pFree]).Ok Tryz.prog := withS_ok cfg_ok ⟨sIdx_holds, pFree_holds, trivial⟩
noncomputable def pTake_t : Tree := .call 53 (Go.Sx.L2.sIdx).rel [.v 0, .c (0)] [0] 1 0 (.letI (.cmp .lss (.v 1) (.c 0)) (.ite (.v 2) (.done [.c (0), .c (0)] [0]) (.need .lss (.v 1) (.v 0) (.need .lss (.v 1) (.v 0) (.letL (.set 0 (.v 1) (.c 1)) (.done [.v 1, .c (1)] [1]))))))
theorem pTake_tree : (L2.pTake).exe Tryz.prog (withS (L2.cfg Tryz.prog) [L2.sIdx, L2.pFree]) [] 20 200 = pTake_t := by kernel_rfl
theorem pTake_vc (Q : List Int → List (List Int) → Prop) (v0 : Int) (L0 : List Int) : pTake_t.dn ⟨Q, []⟩ 1 [v0] 1 [L0] = ((Go.Sx.L2.sIdx).rel.pre [v0, (0 : Int)] [L0] ∧
(∀ v1 : Int, (Go.Sx.L2.sIdx).rel.post [v0, (0 : Int)] [L0] [v1] [] → ((v1 < (0 : Int)) → Q [(0 : Int), (0 : Int)] [L0]) ∧
(((0 : Int) ≤ v1) → (v1 < v0) ∧ (v1 < v0) ∧ ∀ L1 : List Int, L1 = (L0).set (v1).toNat (1 : Int) → Q [v1, (1 : Int)] [L1]))) := by kernel_rfl
set_option maxHeartbeats 4000000 in
theorem pTake_holds : (L2.pTake).Holds Tryz.prog L2.ro := FSpec.holdsV (cfg := withS (L2.cfg Tryz.prog) [L2.sIdx, L2.pFree]) [] 20 200 po2_ok mixed (t := pTake_t) pTake_tree (by
  show ∀ (v0 : Int) (L0 : List Int), _
  intro v0 L0 hp hr hl
  replace hr : (((1) : Int) ≤ v0 ∧ v0 ≤ ((16) : Int)) ∧ True := hr
  replace hl : (∀ x ∈ L0, (((0) : Int) ≤ x ∧ x ≤ ((7) : Int))) ∧ True := hl
  show pTake_t.dn ⟨_, []⟩ 1 [v0] 1 [L0]
  rw [pTake_vc]
  have hn : (L0.length : Int) = v0 := hp
  refine ⟨hp, fun v1 h => ?_⟩
  have h' : IdxP L0 0 v1 := h.1
  rcases h' with ⟨i, rfl, hi, hx, hb⟩ | ⟨rfl, hb⟩
  · exact ⟨fun c => absurd c (by omega), fun c => ⟨by omega, by omega, fun L1 e1 => show TakeP L0 [(i : Int), 1] [L1] from .inl ⟨i, rfl, hi, hx, hb, by rw [e1, Int.toNat_natCast]⟩⟩⟩
  · exact ⟨fun c => show TakeP L0 [0, 0] [L0] from .inr ⟨rfl, hb, rfl⟩, fun c => absurd c (by decide)⟩)
noncomputable def pBits_t : Tree := .call 23 (Go.Sx.L2.pFree).rel [.v 0] [0] 2 1 (.loop [.c (0), .c (0)] [] (.letI (.cmp .lss (.v 3) (.v 1)) (.ite (.v 5) (.need .lss (.v 3) (.v 1) (.need .lss (.v 3) (.v 1) (.letI (.get 1 (.v 3)) (.letI (.shl .u64 (.c 1) (.v 6)) (.letI (.bit .or .u64 (.v 4) (.v 7)) (.letI (.add (.v 3) (.c 1)) (.need .geq (.v 8) (.c 0) (.need .leq (.v 8) (.c 18446744073709551615) (.again [.v 9, .v 8] []))))))))) (.exit (.done [.v 4] [])))))
theorem pBits_tree : (L2.pBits).exe Tryz.prog (withS (L2.cfg Tryz.prog) [L2.sIdx, L2.pFree]) [{ f := L2.f_pool_Pool_Bits, reg := 3, ints := [(9, 0, 1000000), (3, 0, 18446744073709551615)] }] 20 200 = pBits_t := by kernel_rfl
theorem pBits_vc (Q : List Int → List (List Int) → Prop) (v0 : Int) (L0 : List Int) : pBits_t.dn ⟨Q, []⟩ 1 [v0] 1 [L0] = ((Go.Sx.L2.pFree).rel.pre [v0] [L0] ∧
(∀ v1 : Int, ∀ v2 : Int, ∀ L1 : List Int, (Go.Sx.L2.pFree).rel.post [v0] [L0] [v1, v2] [L1] → ∃ (I0 : List Int → List (List Int) → Prop) (μ0 : List Int → List (List Int) → Nat), I0 [(0 : Int), (0 : Int)] [] ∧
(∀ v3 : Int, ∀ v4 : Int, I0 [v3, v4] [] →
 ((v3 < v1) → (v3 < v1) ∧ (v3 < v1) ∧ ∀ v6 : Int, v6 = (L1).getD (v3).toNat 0 → ∀ v7 : Int, v7 = IntKind.wrap .u64 ((1 : Int) * 2 ^ (min (v6).toNat (IntKind.bits .u64))) → ∀ v8 : Int, v8 = bitDen .or .u64 v4 v7 → ∀ v9 : Int, v9 = v3 + (1 : Int) → ((0 : Int) ≤ v8) ∧ (v8 ≤ (18446744073709551615 : Int)) ∧ (I0 [v9, v8] [] ∧ μ0 [v9, v8] [] < μ0 [v3, v4] [])) ∧
((v1 ≤ v3) → Q [v4] [])))) := by kernel_rfl
set_option maxHeartbeats 4000000 in
theorem pBits_holds : (L2.pBits).Holds Tryz.prog L2.ro := FSpec.holdsV (cfg := withS (L2.cfg Tryz.prog) [L2.sIdx, L2.pFree]) [{ f := L2.f_pool_Pool_Bits, reg := 3, ints := [(9, 0, 1000000), (3, 0, 18446744073709551615)] }] 20 200 po2_ok mixed (t := pBits_t) pBits_tree (by
  show ∀ (v0 : Int) (L0 : List Int), _
  intro v0 L0 hp hr hl
  replace hr : (((1) : Int) ≤ v0 ∧ v0 ≤ ((16) : Int)) ∧ True := hr
  replace hl : (∀ x ∈ L0, (((0) : Int) ≤ x ∧ x ≤ ((7) : Int))) ∧ True := hl
  show pBits_t.dn ⟨_, []⟩ 1 [v0] 1 [L0]
  rw [pBits_vc]
  refine ⟨hp, fun v1 v2 L1 h => ?_⟩
  have h' : NoP L0 → v1 = 0 := h
  refine ⟨fun xs ys => match xs, ys with | [i, w], [] => 0 ≤ i ∧ (NoP L0 → w = 0) | _, _ => False, fun xs _ => match xs with | i :: _ => (v1 - i).toNat | _ => 0, ?_, ?_⟩ <;> dsimp only
  · exact ⟨by omega, fun _ => rfl⟩
  · intro v3 v4 hI
    obtain ⟨i0, hz⟩ := hI
    refine ⟨fun c => ⟨c, c, fun v6 e6 v7 e7 v8 e8 v9 e9 => ⟨?_, ?_, ⟨by omega, fun hN => ?_⟩, by omega⟩⟩, fun c hN => ?_⟩
    · rw [e8]; unfold bitDen; exact (wrap_range .u64 _).1
    · rw [e8]; unfold bitDen; exact (wrap_range .u64 _).2
    · have := h' hN; omega
    · show [v4] = [0]
      rw [hz hN])
end Go.Proofs.YtbpilohnhhbbpabGreatDoor
