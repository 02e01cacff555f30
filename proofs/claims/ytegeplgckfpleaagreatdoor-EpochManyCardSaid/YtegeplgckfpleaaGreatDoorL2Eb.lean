/- Contract: has an epoch been heard of by all? -/
import Derived.Test.YtegeplgckfpleaaGreatDoorL2Ea
set_option linter.unusedVariables false
set_option linter.unusedSimpArgs false
open Go Go.Sx
namespace Go.Proofs.YtegeplgckfpleaaGreatDoor
set_option maxRecDepth 100000
theorem ea_ok : (withS (L2.cfg Tryz.prog) [L2.eWaits]).Ok Tryz.prog := withS_ok cfg_ok ⟨eWaits_holds, trivial⟩
noncomputable def eDone_t : Tree := .letI (.cmp .leq (.c 1) (.v 3)) (.ite (.v 4) (.letI (.cmp .leq (.v 3) (.v 0)) (.ite (.v 5) (.call 33 (Go.Sx.L2.eWaits).rel [.v 0, .v 1, .v 2, .v 3] [0, 1] 2 1 (.letI (.cmp .eql (.v 6) (.c 0)) (.done [.v 8] []))) (.done [.c (0)] []))) (.done [.c (0)] []))
theorem eDone_tree : (L2.eDone).exe Tryz.prog (withS (L2.cfg Tryz.prog) [L2.eWaits]) [] 20 200 = eDone_t := by kernel_rfl
theorem eDone_vc (Q : List Int → List (List Int) → Prop) (v0 v1 v2 v3 : Int) (L0 L1 : List Int) : eDone_t.dn ⟨Q, []⟩ 4 [v3, v2, v1, v0] 2 [L1, L0] = ((((1 : Int) ≤ v3) → ((v3 ≤ v0) → (Go.Sx.L2.eWaits).rel.pre [v0, v1, v2, v3] [L0, L1] ∧
(∀ v6 : Int, ∀ v7 : Int, ∀ L2 : List Int, (Go.Sx.L2.eWaits).rel.post [v0, v1, v2, v3] [L0, L1] [v6, v7] [L2] → ∀ v8 : Int, v8 = b2i (v6 == (0 : Int)) → Q [v8] [])) ∧
((v0 < v3) → Q [(0 : Int)] [])) ∧
((v3 < (1 : Int)) → Q [(0 : Int)] [])) := by kernel_rfl
set_option maxHeartbeats 4000000 in
theorem eDone_holds : (L2.eDone).Holds Tryz.prog L2.ro := FSpec.holdsV (cfg := withS (L2.cfg Tryz.prog) [L2.eWaits]) [] 20 200 ea_ok mixed (t := eDone_t) eDone_tree (by
  show ∀ (v0 v1 v2 v3 : Int) (L0 L1 : List Int), _
  intro v0 v1 v2 v3 L0 L1 hp hr hl
  replace hr : (((0) : Int) ≤ v0 ∧ v0 ≤ ((1000) : Int)) ∧ (((0) : Int) ≤ v1 ∧ v1 ≤ ((9223372036854775807) : Int)) ∧ (((1) : Int) ≤ v2 ∧ v2 ≤ ((8) : Int)) ∧ (((0) : Int) ≤ v3 ∧ v3 ≤ ((18446744073709551615) : Int)) ∧ True := hr
  replace hl : (∀ x ∈ L0, (((-9223372036854775808) : Int) ≤ x ∧ x ≤ ((9223372036854775807) : Int))) ∧ (∀ x ∈ L1, (((0) : Int) ≤ x ∧ x ≤ ((18446744073709551615) : Int))) ∧ True := hl
  show eDone_t.dn ⟨_, []⟩ 4 [v3, v2, v1, v0] 2 [L1, L0]
  rw [eDone_vc]
  have hp : (L0.length : Int) = v0 ∧ v0 ≤ v1 ∧ (L1.length : Int) = v2 := hp
  obtain ⟨p1, p2, p3⟩ := hp
  clear hl
  refine ⟨fun c1 => ⟨fun c2 => ?_, fun c2 => ?_⟩, fun c1 => ?_⟩
  · refine ⟨⟨p1, p2, p3⟩, ?_⟩
    intro a b L hw
    have hw : a = ((waitsE L0 L1 v3).length : Int) ∧ a ≤ b ∧ [L] = [waitsE L0 L1 v3] := hw
    intro z ez
    have he : epOk L0 v3 = true := by simp [epOk]; omega
    show [z] = [b2i (epOk L0 v3 && decide (waitsE L0 L1 v3 = []))] ∧ _
    rw [he, ez, hw.1]
    refine ⟨?_, rfl⟩
    cases waitsE L0 L1 v3 <;> simp [b2i] <;> omega
  · have he : epOk L0 v3 = false := by simp [epOk]; omega
    show [0] = [b2i (epOk L0 v3 && decide (waitsE L0 L1 v3 = []))] ∧ _
    rw [he]; exact ⟨rfl, rfl⟩
  · have he : epOk L0 v3 = false := by simp [epOk]; omega
    show [0] = [b2i (epOk L0 v3 && decide (waitsE L0 L1 v3 = []))] ∧ _
    rw [he]; exact ⟨rfl, rfl⟩)
end Go.Proofs.YtegeplgckfpleaaGreatDoor
