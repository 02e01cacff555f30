/- Contract: PlainPages, its capability revoked. -/
import Derived.Test.YtpmgfdakljjlaaaGreatDoorL2Facts
import Derived.Test.YtpmgfdakljjlaaaGreatDoorSxM7
import Derived.Test.YtpmgfdakljjlaaaGreatDoorL2J
import Derived.Test.YtpmgfdakljjlaaaGreatDoorL2Tt
set_option linter.unusedVariables false
set_option linter.constructorNameAsVariable false
set_option linter.unusedSimpArgs false
open Go Go.Sx
namespace Go.Proofs.YtpmgfdakljjlaaaGreatDoor
set_option maxRecDepth 100000
theorem jr_ok : (withC (withS (L2.cfg Tryz.prog) [L2.tBy, L2.tRemove, L2.tInsert, L2.tAt])).Ok Tryz.prog := withC_ok (withS_ok cfg_ok ⟨tBy_holds, tRemove_holds, tInsert_holds, tAt_holds, trivial⟩)
noncomputable def jR_t : Tree := .any (.c 1) (.c 9223372036854775807) (.letI (.mul (.v 2) (.c 2)) (.call 88 (Go.Sx.L2.tBy).rel [.c (3)] [0] 2 1 (.letI (.pick (.v 5) (.v 4) (.c 0)) (.loop [.c (0)] [0] (.letI (.cmp .lss (.v 7) (.v 6)) (.ite (.v 8) (.need .lss (.v 7) (.v 4) (.need .lss (.v 7) (.v 4) (.letI (.get 1 (.v 7)) (.need .geq (.v 9) (.c (-9223372036854775808)) (.need .leq (.v 9) (.c 9223372036854775807) (.call 46 (Go.Sx.L2.tRemove).rel [.v 9] [2] 4 1 (.letI (.add (.v 7) (.c 1)) (.again [.v 14] [3])))))))) (.exit (.done [] [2]))))))))
theorem jR_tree : (L2.jR).exe Tryz.prog (withC (withS (L2.cfg Tryz.prog) [L2.tBy, L2.tRemove, L2.tInsert, L2.tAt])) [{ f := L2.f_plain_Kernel_revoke, reg := 12, ints := [(79, 0, 1000000)], lists := [(0, [4, 0], some (-9223372036854775808, 9223372036854775807))] }] 20 200 = jR_t := by kernel_rfl
theorem jR_vc (Q : List Int → List (List Int) → Prop) (v0 v1 : Int) (L0 : List Int) : jR_t.dn ⟨Q, []⟩ 2 [v1, v0] 1 [L0] = (∀ v2 : Int, (1 : Int) ≤ v2 → v2 ≤ (9223372036854775807 : Int) → ∀ v3 : Int, v3 = v2 * (2 : Int) → (Go.Sx.L2.tBy).rel.pre [(3 : Int)] [L0] ∧
(∀ v4 : Int, ∀ v5 : Int, ∀ L1 : List Int, (Go.Sx.L2.tBy).rel.post [(3 : Int)] [L0] [v4, v5] [L1] → ∀ v6 : Int, v6 = (if v5 = 0 then (0 : Int) else v4) → ∃ (I0 : List Int → List (List Int) → Prop) (μ0 : List Int → List (List Int) → Nat), I0 [(0 : Int)] [L0] ∧
(∀ v7 : Int, ∀ L2 : List Int, I0 [v7] [L2] →
 ((v7 < v6) → (v7 < v4) ∧ (v7 < v4) ∧ ∀ v9 : Int, v9 = (L1).getD (v7).toNat 0 → (((-9223372036854775808) : Int) ≤ v9) ∧ (v9 ≤ (9223372036854775807 : Int)) ∧ (Go.Sx.L2.tRemove).rel.pre [v9] [L2] ∧
(∀ v10 : Int, ∀ v11 : Int, ∀ v12 : Int, ∀ v13 : Int, ∀ L3 : List Int, (Go.Sx.L2.tRemove).rel.post [v9] [L2] [v10, v11, v12, v13] [L3] → ∀ v14 : Int, v14 = v7 + (1 : Int) → (I0 [v14] [L3] ∧ μ0 [v14] [L3] < μ0 [v7] [L2]))) ∧
((v6 ≤ v7) → Q [] [L2])))) := by kernel_rfl
set_option maxHeartbeats 4000000 in
theorem jR_holds : (L2.jR).Holds Tryz.prog L2.ro := FSpec.holdsV (cfg := withC (withS (L2.cfg Tryz.prog) [L2.tBy, L2.tRemove, L2.tInsert, L2.tAt])) [{ f := L2.f_plain_Kernel_revoke, reg := 12, ints := [(79, 0, 1000000)], lists := [(0, [4, 0], some (-9223372036854775808, 9223372036854775807))] }] 20 200 jr_ok mixed (t := jR_t) jR_tree (by
  show ∀ (v0 v1 : Int) (L0 : List Int), _
  intro v0 v1 L0 hp hr hl
  replace hr : (((2) : Int) ≤ v0 ∧ v0 ≤ ((9223372036854775807) : Int)) ∧ (((1) : Int) ≤ v1 ∧ v1 ≤ ((9223372036854775807) : Int)) ∧ True := hr
  replace hl : (∀ x ∈ L0, (((-9223372036854775808) : Int) ≤ x ∧ x ≤ ((9223372036854775807) : Int))) ∧ True := hl
  show jR_t.dn ⟨_, []⟩ 2 [v1, v0] 1 [L0]
  rw [jR_vc]
  have hP : PgOk L0 := hp
  intro r1 r2 r3 r4 r5
  refine ⟨trivial, fun n c W qW e ee => ?_⟩
  obtain ⟨w1, w2, w3⟩ := qW
  replace w1 : n = ((byUp L0 3 8).length : Int) := w1
  replace w2 : n ≤ c := w2
  replace w3 : W = byUp L0 3 8 := (List.cons.inj w3).1
  have en : e = n := by rw [ee]; split <;> omega
  have hn := byUp_len L0 3 8
  clear ee
  subst w3 en
  refine ⟨fun is ls => match is, ls with | [i], [T] => 0 ≤ i ∧ i ≤ ((byUp L0 3 8).length : Int) ∧ PgSt L0 T i.toNat | _, _ => False, fun is _ => match is with | i :: _ => ((byUp L0 3 8).length - i).toNat | _ => 0, ⟨by omega, by omega, hP.st⟩, fun i T inv => ?_⟩
  obtain ⟨i0, i1, hT⟩ := inv
  refine ⟨fun ci => ⟨ci, ci, fun x ex => ?_⟩, fun ci => hT.fin (by omega)⟩
  obtain ⟨x0, x8, hS⟩ := hT.next hP (by omega)
  rw [← ex] at x0 x8 hS
  refine ⟨by omega, by omega, trivial, fun a b d f T' q i' ei => ?_⟩
  have eT : T' = remL T x := (List.cons.inj q.2).1
  subst eT
  have ei2 : i'.toNat = i.toNat + 1 := by omega
  refine ⟨⟨by omega, by omega, ?_⟩, ?_⟩
  · rw [ei2]; exact hS
  · show (_ : Int).toNat < (_ : Int).toNat
    omega)
end Go.Proofs.YtpmgfdakljjlaaaGreatDoor
