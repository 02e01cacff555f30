/- Contract: a kernel's copy. -/
import Derived.Test.YtbpilohnhhbbpaaGreatDoorL2Facts
import Derived.Test.YtbpilohnhhbbpaaGreatDoorSxM7
import Derived.Test.YtbpilohnhhbbpaaGreatDoorL2Y
set_option linter.unusedVariables false
set_option linter.constructorNameAsVariable false
set_option linter.unusedSimpArgs false
open Go Go.Sx
namespace Go.Proofs.YtbpilohnhhbbpaaGreatDoor
set_option maxRecDepth 100000
noncomputable def qSC_t : Tree := .any (.c 1) (.c 9223372036854775807) (.any (.c 1) (.c 9223372036854775807) (.any (.c 2) (.c 9223372036854775807) (.letI (.get 0 (.c 0)) (.letI (.get 0 (.c 1)) (.letI (.get 0 (.c 2)) (.letI (.get 0 (.c 3)) (.letI (.get 0 (.c 4)) (.letI (.get 0 (.c 5)) (.letI (.get 0 (.c 6)) (.letI (.get 0 (.c 7)) (.letI (.get 0 (.c 8)) (.letI (.get 0 (.c 9)) (.letI (.get 0 (.c 10)) (.letI (.get 0 (.c 11)) (.letI (.get 0 (.c 12)) (.letI (.get 0 (.c 13)) (.letI (.get 0 (.c 14)) (.letI (.get 0 (.c 15)) (.any (.c 16) (.c 9223372036854775807) (.letL (.lit [.v 5, .v 6, .v 7, .v 8, .v 9, .v 10, .v 11, .v 12, .v 13, .v 14, .v 15, .v 16, .v 17, .v 18, .v 19, .v 20]) (.done [.v 4, .v 2] [1])))))))))))))))))))))
theorem qSC_tree : (L2.qSC).exe Tryz.prog (L2.cfg Tryz.prog) [] 20 200 = qSC_t := by kernel_rfl
theorem qSC_vc (Q : List Int → List (List Int) → Prop) (v0 v1 : Int) (L0 : List Int) : qSC_t.dn ⟨Q, []⟩ 2 [v1, v0] 1 [L0] = (∀ v2 : Int, (1 : Int) ≤ v2 → v2 ≤ (9223372036854775807 : Int) → ∀ v3 : Int, (1 : Int) ≤ v3 → v3 ≤ (9223372036854775807 : Int) → ∀ v4 : Int, (2 : Int) ≤ v4 → v4 ≤ (9223372036854775807 : Int) → ∀ v5 : Int, v5 = (L0).getD ((0 : Int)).toNat 0 → ∀ v6 : Int, v6 = (L0).getD ((1 : Int)).toNat 0 → ∀ v7 : Int, v7 = (L0).getD ((2 : Int)).toNat 0 → ∀ v8 : Int, v8 = (L0).getD ((3 : Int)).toNat 0 → ∀ v9 : Int, v9 = (L0).getD ((4 : Int)).toNat 0 → ∀ v10 : Int, v10 = (L0).getD ((5 : Int)).toNat 0 → ∀ v11 : Int, v11 = (L0).getD ((6 : Int)).toNat 0 → ∀ v12 : Int, v12 = (L0).getD ((7 : Int)).toNat 0 → ∀ v13 : Int, v13 = (L0).getD ((8 : Int)).toNat 0 → ∀ v14 : Int, v14 = (L0).getD ((9 : Int)).toNat 0 → ∀ v15 : Int, v15 = (L0).getD ((10 : Int)).toNat 0 → ∀ v16 : Int, v16 = (L0).getD ((11 : Int)).toNat 0 → ∀ v17 : Int, v17 = (L0).getD ((12 : Int)).toNat 0 → ∀ v18 : Int, v18 = (L0).getD ((13 : Int)).toNat 0 → ∀ v19 : Int, v19 = (L0).getD ((14 : Int)).toNat 0 → ∀ v20 : Int, v20 = (L0).getD ((15 : Int)).toNat 0 → ∀ v21 : Int, (16 : Int) ≤ v21 → v21 ≤ (9223372036854775807 : Int) → ∀ L1 : List Int, L1 = [v5, v6, v7, v8, v9, v10, v11, v12, v13, v14, v15, v16, v17, v18, v19, v20] → Q [v4, v2] [L1]) := by kernel_rfl
set_option maxHeartbeats 4000000 in
theorem qSC_holds : (L2.qSC).Holds Tryz.prog L2.ro := FSpec.holdsV (cfg := L2.cfg Tryz.prog) [] 20 200 cfg_ok mixed (t := qSC_t) qSC_tree (by
  show ∀ (v0 v1 : Int) (L0 : List Int), _
  intro v0 v1 L0 hp hr hl
  replace hr : (((2) : Int) ≤ v0 ∧ v0 ≤ ((9223372036854775807) : Int)) ∧ (((1) : Int) ≤ v1 ∧ v1 ≤ ((9223372036854775807) : Int)) ∧ True := hr
  replace hl : (∀ x ∈ L0, (((0) : Int) ≤ x ∧ x ≤ ((18446744073709551615) : Int))) ∧ True := hl
  show qSC_t.dn ⟨_, []⟩ 2 [v1, v0] 1 [L0]
  rw [qSC_vc]
  have n0 : L0.length = 16 := hp
  intros
  show [_] = [L0]
  subst_vars
  exact congrArg (fun l => [l]) (lit16 n0))
end Go.Proofs.YtbpilohnhhbbpaaGreatDoor
