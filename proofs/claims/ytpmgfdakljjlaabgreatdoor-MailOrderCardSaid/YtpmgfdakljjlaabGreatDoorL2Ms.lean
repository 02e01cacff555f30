/- Contract: an epoch sent. -/
import Derived.Test.YtpmgfdakljjlaabGreatDoorL2Ma
import Derived.Test.YtpmgfdakljjlaabGreatDoorL2Mi
set_option linter.unusedVariables false
set_option linter.constructorNameAsVariable false
set_option linter.unusedSimpArgs false
open Go Go.Sx
namespace Go.Proofs.YtpmgfdakljjlaabGreatDoor
set_option maxRecDepth 100000
theorem ms_ok : (withS (L2.cfg Tryz.prog) [L2.sBin, L2.sIns]).Ok Tryz.prog := withS_ok cfg_ok ⟨sBin_holds, sIns_holds, trivial⟩
noncomputable def mSend_t : Tree := .call 41 (Go.Sx.L2.sBin).rel [.v 0, .v 1, .v 2] [0] 2 0 (.letI (.not (.v 4)) (.ite (.v 5) (.call 42 (Go.Sx.L2.sIns).rel [.v 0, .v 1, .v 3, .v 2] [0] 2 1 (.need .leq (.v 6) (.c 1000) (.done [.v 6, .v 7] [1]))) (.done [.v 0, .v 1] [0])))
theorem mSend_tree : (L2.mSend).exe Tryz.prog (withS (L2.cfg Tryz.prog) [L2.sBin, L2.sIns]) [] 20 200 = mSend_t := by kernel_rfl
theorem mSend_vc (Q : List Int → List (List Int) → Prop) (v0 v1 v2 : Int) (L0 : List Int) : mSend_t.dn ⟨Q, []⟩ 3 [v2, v1, v0] 1 [L0] = ((Go.Sx.L2.sBin).rel.pre [v0, v1, v2] [L0] ∧
(∀ v3 : Int, ∀ v4 : Int, (Go.Sx.L2.sBin).rel.post [v0, v1, v2] [L0] [v3, v4] [] → ∀ v5 : Int, v5 = b2i (v4 == 0) → (v5 ≠ 0 → (Go.Sx.L2.sIns).rel.pre [v0, v1, v3, v2] [L0] ∧
(∀ v6 : Int, ∀ v7 : Int, ∀ L1 : List Int, (Go.Sx.L2.sIns).rel.post [v0, v1, v3, v2] [L0] [v6, v7] [L1] → (v6 ≤ (1000 : Int)) ∧ Q [v6, v7] [L1])) ∧
(v5 = 0 → Q [v0, v1] [L0]))) := by kernel_rfl
set_option maxHeartbeats 4000000 in
theorem mSend_holds : (L2.mSend).Holds Tryz.prog L2.ro := FSpec.holdsV (cfg := withS (L2.cfg Tryz.prog) [L2.sBin, L2.sIns]) [] 20 200 ms_ok mixed (t := mSend_t) mSend_tree (by
  show ∀ (v0 v1 v2 : Int) (L0 : List Int), _
  intro v0 v1 v2 L0 hp hr hl
  replace hr : (((0) : Int) ≤ v0 ∧ v0 ≤ ((999) : Int)) ∧ (((0) : Int) ≤ v1 ∧ v1 ≤ ((9223372036854775807) : Int)) ∧ (((0) : Int) ≤ v2 ∧ v2 ≤ ((18446744073709551615) : Int)) ∧ True := hr
  replace hl : (∀ x ∈ L0, (((0) : Int) ≤ x ∧ x ≤ ((18446744073709551615) : Int))) ∧ True := hl
  show mSend_t.dn ⟨_, []⟩ 3 [v2, v1, v0] 1 [L0]
  rw [mSend_vc]
  obtain ⟨⟨hn, hle⟩, hA⟩ := hp
  have hn : (L0.length : Int) = v0 := hn
  have hle : v0 ≤ v1 := hle
  have hA : Asc L0 := hA
  refine ⟨⟨⟨hn, hle⟩, hA⟩, fun v3 v4 q v5 e5 => ?_⟩
  have q3 : v3 = (lessN L0 v2 : Int) := (List.cons.inj q.1).1
  have q4 : v4 = b2i (decide (v2 ∈ L0)) := (List.cons.inj (List.cons.inj q.1).2).1
  have hl3 := lessN_le L0 v2
  have hpl := putA_len L0 v2
  by_cases hm : v2 ∈ L0
  · have : v5 = 0 := by rw [e5, q4]; simp [hm, b2i]
    rw [if_pos hm] at hpl
    refine ⟨fun c => absurd this c, fun _ => ?_⟩
    have hp : putA L0 v2 = L0 := by unfold putA; rw [if_pos hm]
    show v0 = ((putA L0 v2).length : Int) ∧ v0 ≤ v1 ∧ [L0] = [putA L0 v2]
    rw [hp]; exact ⟨hn.symm, hle, rfl⟩
  · have : v5 = 1 := by rw [e5, q4]; simp [hm, b2i]
    rw [if_neg hm] at hpl
    have hp : putA L0 v2 = insAt L0 (lessN L0 v2) v2 := by unfold putA; rw [if_neg hm]
    refine ⟨fun _ => ⟨⟨⟨hn, hle⟩, show 0 ≤ v3 by omega, show v3 ≤ v0 by omega⟩, fun v6 v7 L1 r => ?_⟩, fun c => by omega⟩
    have r1 : v6 = v0 + 1 := r.1
    have r2 : v6 ≤ v7 := r.2.1
    have r3 : L1 = insAt L0 v3.toNat v2 := (List.cons.inj r.2.2).1
    refine ⟨by omega, ?_⟩
    show v6 = ((putA L0 v2).length : Int) ∧ v6 ≤ v7 ∧ [L1] = [putA L0 v2]
    rw [r3, hp, q3, Int.toNat_natCast]
    rw [hp] at hpl
    exact ⟨by omega, r2, rfl⟩)
noncomputable def mSend1_t : Tree := .done [] []
theorem mSend1_tree : (L2.mSend1).exe Tryz.prog (withS (L2.cfg Tryz.prog) [L2.sBin, L2.sIns]) [] 20 200 = mSend1_t := by kernel_rfl
theorem mSend1_vc (Q : List Int → List (List Int) → Prop) : mSend1_t.dn ⟨Q, []⟩ 0 [] 0 [] = (Q [] []) := by kernel_rfl
set_option maxHeartbeats 4000000 in
theorem mSend1_holds : (L2.mSend1).Holds Tryz.prog L2.ro := FSpec.holdsV (cfg := withS (L2.cfg Tryz.prog) [L2.sBin, L2.sIns]) [] 20 200 ms_ok mixed (t := mSend1_t) mSend1_tree (by
  show _ → _
  intro   hp hr hl
  replace hr : True := hr
  replace hl : True := hl
  show mSend1_t.dn ⟨_, []⟩ 0 [] 0 []
  rw [mSend1_vc]
  repeat' first | refine And.intro ?_ ?_ | intro _
  all_goals trivial)
end Go.Proofs.YtpmgfdakljjlaabGreatDoor
