/- Contract: what is below a place goes. -/
import Derived.Test.YtpmgfdakljjlaaaGreatDoorL2Cb
import Derived.Test.YtpmgfdakljjlaaaGreatDoorL2Ce
set_option linter.unusedVariables false
set_option linter.constructorNameAsVariable false
set_option linter.unusedSimpArgs false
open Go Go.Sx
namespace Go.Proofs.YtpmgfdakljjlaaaGreatDoor
set_option maxRecDepth 100000
theorem cr_ok : (withS (L2.cfg Tryz.prog) [L2.cLook, L2.cBelow, L2.cEmp]).Ok Tryz.prog := withS_ok cfg_ok ⟨cLook_holds, cBelow_holds, cEmp_holds, trivial⟩
noncomputable def cRevoke_t : Tree := .call 56 (Go.Sx.L2.cLook).rel [.v 0, .v 1, .v 2, .v 3] [0] 1 0 (.letI (.cmp .neq (.v 4) (.c 0)) (.ite (.v 5) (.letL (.lit []) (.done [.c (0), .c (0), .c (0), .c (0), .v 4] [1, 0])) (.call 20 (Go.Sx.L2.cBelow).rel [.v 0, .v 1, .v 2, .v 3] [0] 4 1 (.call 57 (Go.Sx.L2.cEmp).rel [.v 0, .v 1, .v 6, .v 7, .v 8, .v 9] [0, 1] 0 1 (.done [.v 6, .v 7, .v 8, .v 9, .c (0)] [1, 2])))))
theorem cRevoke_tree : (L2.cRevoke).exe Tryz.prog (withS (L2.cfg Tryz.prog) [L2.cLook, L2.cBelow, L2.cEmp]) [] 20 200 = cRevoke_t := by kernel_rfl
theorem cRevoke_vc (Q : List Int → List (List Int) → Prop) (v0 v1 v2 v3 : Int) (L0 : List Int) : cRevoke_t.dn ⟨Q, []⟩ 4 [v3, v2, v1, v0] 1 [L0] = ((Go.Sx.L2.cLook).rel.pre [v0, v1, v2, v3] [L0] ∧
(∀ v4 : Int, (Go.Sx.L2.cLook).rel.post [v0, v1, v2, v3] [L0] [v4] [] → ((v4 ≠ (0 : Int)) → ∀ L1 : List Int, L1 = [] → Q [(0 : Int), (0 : Int), (0 : Int), (0 : Int), v4] [L1, L0]) ∧
((v4 = (0 : Int)) → (Go.Sx.L2.cBelow).rel.pre [v0, v1, v2, v3] [L0] ∧
(∀ v6 : Int, ∀ v7 : Int, ∀ v8 : Int, ∀ v9 : Int, ∀ L1 : List Int, (Go.Sx.L2.cBelow).rel.post [v0, v1, v2, v3] [L0] [v6, v7, v8, v9] [L1] → (Go.Sx.L2.cEmp).rel.pre [v0, v1, v6, v7, v8, v9] [L0, L1] ∧
(∀ L2 : List Int, (Go.Sx.L2.cEmp).rel.post [v0, v1, v6, v7, v8, v9] [L0, L1] [] [L2] → Q [v6, v7, v8, v9, (0 : Int)] [L1, L2]))))) := by kernel_rfl
set_option maxHeartbeats 4000000 in
theorem cRevoke_holds : (L2.cRevoke).Holds Tryz.prog L2.ro := FSpec.holdsV (cfg := withS (L2.cfg Tryz.prog) [L2.cLook, L2.cBelow, L2.cEmp]) [] 20 200 cr_ok mixed (t := cRevoke_t) cRevoke_tree (by
  show ∀ (v0 v1 v2 v3 : Int) (L0 : List Int), _
  intro v0 v1 v2 v3 L0 hp hr hl
  replace hr : (((1) : Int) ≤ v0 ∧ v0 ≤ ((4) : Int)) ∧ (((32) : Int) ≤ v1 ∧ v1 ≤ ((128) : Int)) ∧ (((-9223372036854775808) : Int) ≤ v2 ∧ v2 ≤ ((9223372036854775807) : Int)) ∧ (((-9223372036854775808) : Int) ≤ v3 ∧ v3 ≤ ((9223372036854775807) : Int)) ∧ True := hr
  replace hl : (∀ x ∈ L0, (((-9223372036854775808) : Int) ≤ x ∧ x ≤ ((9223372036854775807) : Int))) ∧ True := hl
  show cRevoke_t.dn ⟨_, []⟩ 4 [v3, v2, v1, v0] 1 [L0]
  rw [cRevoke_vc]
  have hp1 : v1 = v0 * 32 ∧ CV v0 L0 := hp
  have hlen := hp1.2.len
  refine ⟨hp1.1, ?_⟩
  intro e he
  have he : e = lookE v0 L0 v2 v3 := by
    have : [e] = [lookE v0 L0 v2 v3] := he.1
    simpa using this
  refine ⟨fun c => ?_, fun c => ?_⟩
  · intro L1 e1
    show (0 : Int) * 2 = (L1.length : Int) ∧ (0 : Int) ≤ 0 ∧ (0 : Int) = 0 * 2 ∧ (0 : Int) = 0 * 2 ∧ e = lookE v0 L0 v2 v3 ∧ [L1, L0] = (if lookE v0 L0 v2 v3 = 0 then [belowL v0 L0 v2 v3, emptyC L0 (belowL v0 L0 v2 v3)] else [[], L0])
    rw [if_neg (by rw [← he]; exact c)]
    subst e1
    exact ⟨rfl, by omega, rfl, rfl, he, rfl⟩
  · refine ⟨hp1, ?_⟩
    intro a r d s W hw
    have hw : a * 2 = ((belowL v0 L0 v2 v3).length : Int) ∧ a ≤ r ∧ d = a * 2 ∧ s = r * 2 ∧ [W] = [belowL v0 L0 v2 v3] := hw
    obtain ⟨w1, w2, w3, w4, w5⟩ := hw
    have hW : W = belowL v0 L0 v2 v3 := by simpa using w5
    rw [← hW] at w1
    refine ⟨⟨hp1.1, by show (L0.length : Int) = v1; omega, w3, by show (W.length : Int) = d; omega, w2, by show PlsOk v0 W; rw [hW]; exact selC_ok _ (by omega)⟩, ?_⟩
    intro T hT
    have hT : [T] = [emptyC L0 W] := hT
    show a * 2 = (W.length : Int) ∧ a ≤ r ∧ d = a * 2 ∧ s = r * 2 ∧ (0 : Int) = lookE v0 L0 v2 v3 ∧ [W, T] = (if lookE v0 L0 v2 v3 = 0 then [belowL v0 L0 v2 v3, emptyC L0 (belowL v0 L0 v2 v3)] else [[], L0])
    rw [if_pos (by rw [← he]; exact c), ← hW]
    exact ⟨w1, w2, w3, w4, by omega, by simpa using hT⟩)
end Go.Proofs.YtpmgfdakljjlaaaGreatDoor
