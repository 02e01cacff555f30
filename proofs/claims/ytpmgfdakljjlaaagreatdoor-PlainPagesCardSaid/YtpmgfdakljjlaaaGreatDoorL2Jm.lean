/- Contract: a page of PlainPages. -/
import Derived.Test.YtpmgfdakljjlaaaGreatDoorL2Facts
import Derived.Test.YtpmgfdakljjlaaaGreatDoorSxM7
import Derived.Test.YtpmgfdakljjlaaaGreatDoorL2J
import Derived.Test.YtpmgfdakljjlaaaGreatDoorL2Tt
set_option linter.unusedVariables false
set_option linter.constructorNameAsVariable false
set_option linter.unusedSimpArgs false
open Go Go.Sx
namespace Go.Proofs.YtpmgfdakljjlaaaGreatDoor
set_option maxRecDepth 100000
theorem jm_ok : (withC (withS (L2.cfg Tryz.prog) [L2.tBy, L2.tRemove, L2.tInsert, L2.tAt])).Ok Tryz.prog := withC_ok (withS_ok cfg_ok ⟨tBy_holds, tRemove_holds, tInsert_holds, tAt_holds, trivial⟩)
noncomputable def jM_t : Tree := .call 50 (Go.Sx.L2.tAt).rel [.v 2] [0] 4 0 (.ite (.v 6) (.done [.c (4)] [0]) (.call 29 (Go.Sx.L2.tInsert).rel [.v 2, .c (0), .c (3), .c (1)] [0] 1 1 (.done [.v 7] [1])))
theorem jM_tree : (L2.jM).exe Tryz.prog (withC (withS (L2.cfg Tryz.prog) [L2.tBy, L2.tRemove, L2.tInsert, L2.tAt])) [] 20 200 = jM_t := by kernel_rfl
theorem jM_vc (Q : List Int → List (List Int) → Prop) (v0 v1 v2 : Int) (L0 : List Int) : jM_t.dn ⟨Q, []⟩ 3 [v2, v1, v0] 1 [L0] = ((Go.Sx.L2.tAt).rel.pre [v2] [L0] ∧
(∀ v3 : Int, ∀ v4 : Int, ∀ v5 : Int, ∀ v6 : Int, (Go.Sx.L2.tAt).rel.post [v2] [L0] [v3, v4, v5, v6] [] → (v6 ≠ 0 → Q [(4 : Int)] [L0]) ∧
(v6 = 0 → (Go.Sx.L2.tInsert).rel.pre [v2, (0 : Int), (3 : Int), (1 : Int)] [L0] ∧
(∀ v7 : Int, ∀ L1 : List Int, (Go.Sx.L2.tInsert).rel.post [v2, (0 : Int), (3 : Int), (1 : Int)] [L0] [v7] [L1] → Q [v7] [L1])))) := by kernel_rfl
set_option maxHeartbeats 4000000 in
theorem jM_holds : (L2.jM).Holds Tryz.prog L2.ro := FSpec.holdsV (cfg := withC (withS (L2.cfg Tryz.prog) [L2.tBy, L2.tRemove, L2.tInsert, L2.tAt])) [] 20 200 jm_ok mixed (t := jM_t) jM_tree (by
  show ∀ (v0 v1 v2 : Int) (L0 : List Int), _
  intro v0 v1 v2 L0 hp hr hl
  replace hr : (((2) : Int) ≤ v0 ∧ v0 ≤ ((9223372036854775807) : Int)) ∧ (((1) : Int) ≤ v1 ∧ v1 ≤ ((9223372036854775807) : Int)) ∧ (((0) : Int) ≤ v2 ∧ v2 ≤ ((6) : Int)) ∧ True := hr
  replace hl : (∀ x ∈ L0, (((-9223372036854775808) : Int) ≤ x ∧ x ≤ ((9223372036854775807) : Int))) ∧ True := hl
  show jM_t.dn ⟨_, []⟩ 3 [v2, v1, v0] 1 [L0]
  rw [jM_vc]
  have hP : PgOk L0 := hp
  obtain ⟨p, rfl⟩ : ∃ p : Nat, v2 = p := ⟨v2.toNat, by omega⟩
  obtain ⟨e1, e2, e3, e4⟩ := hP.put (p := p) (by omega)
  refine ⟨trivial, fun v3 v4 v5 v6 q => ?_⟩
  have e6 : v6 = b2i (atOk L0 p) := (List.cons.inj (List.cons.inj (List.cons.inj (List.cons.inj q.1).2).2).2).1
  have hp8 : pageOk p = true := by simp [pageOk]; omega
  refine ⟨fun c => ?_, fun c => ⟨trivial, fun v7 L1 q7 => ?_⟩⟩
  · have h2 : tG L0 p 2 ≠ 0 := by
      intro h2
      rw [e6] at c
      unfold atOk at c
      rw [hp8, h2] at c
      exact absurd c (by decide)
    have i4 : insE L0 p 0 3 1 = 4 := by rw [e1, if_neg h2]
    have iL : insL L0 p 0 3 1 = L0 := by unfold insL; rw [i4]; rfl
    show [(4 : Int)] = [insE L0 p 0 3 1] ∧ [L0] = [insL L0 p 0 3 1]
    rw [i4, iL]; exact ⟨rfl, rfl⟩
  · show [v7] = [insE L0 p 0 3 1] ∧ [L1] = [insL L0 p 0 3 1]
    exact ⟨q7.1, q7.2⟩)
end Go.Proofs.YtpmgfdakljjlaaaGreatDoor
