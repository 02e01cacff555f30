/- Contracts: epochs. -/
import Derived.Test.YtegeplgckfpleaaGreatDoorL2Facts
import Derived.Test.YtegeplgckfpleaaGreatDoorSxM7
import Derived.Test.YtegeplgckfpleaaGreatDoorL2E
set_option linter.unusedVariables false
set_option linter.unusedSimpArgs false
open Go Go.Sx
namespace Go.Proofs.YtegeplgckfpleaaGreatDoor
set_option maxRecDepth 100000
noncomputable def eBegin_t : Tree := .letI (.cmp .leq (.c 0) (.v 3)) (.ite (.v 4) (.letI (.cmp .lss (.v 3) (.v 2)) (.letI (.not (.v 5)) (.ite (.v 6) (.done [.c (0), .c (0), .v 0, .v 1] [0]) (.letL (.lit [.v 3]) (.letI (.add (.v 0) (.c 1)) (.need .leq (.v 0) (.v 1) (.letL (.app 0 2) (.any (.v 7) (.c 9223372036854775807) (.done [.v 7, .c (1), .v 7, .v 8] [3]))))))))) (.done [.c (0), .c (0), .v 0, .v 1] [0]))
theorem eBegin_tree : (L2.eBegin).exe Tryz.prog (L2.cfg Tryz.prog) [] 20 200 = eBegin_t := by kernel_rfl
theorem eBegin_vc (Q : List Int → List (List Int) → Prop) (v0 v1 v2 v3 : Int) (L0 L1 : List Int) : eBegin_t.dn ⟨Q, []⟩ 4 [v3, v2, v1, v0] 2 [L1, L0] = ((((0 : Int) ≤ v3) → ∀ v5 : Int, v5 = b2i (decide (v3 < v2)) → ∀ v6 : Int, v6 = b2i (v5 == 0) → (v6 ≠ 0 → Q [(0 : Int), (0 : Int), v0, v1] [L0]) ∧
(v6 = 0 → ∀ L2 : List Int, L2 = [v3] → ∀ v7 : Int, v7 = v0 + (1 : Int) → (v0 ≤ v1) ∧ ∀ L3 : List Int, L3 = L0 ++ L2 → ∀ v8 : Int, v7 ≤ v8 → v8 ≤ (9223372036854775807 : Int) → Q [v7, (1 : Int), v7, v8] [L3])) ∧
((v3 < (0 : Int)) → Q [(0 : Int), (0 : Int), v0, v1] [L0])) := by kernel_rfl
set_option maxHeartbeats 4000000 in
theorem eBegin_holds : (L2.eBegin).Holds Tryz.prog L2.ro := FSpec.holdsV (cfg := L2.cfg Tryz.prog) [] 20 200 cfg_ok mixed (t := eBegin_t) eBegin_tree (by
  show ∀ (v0 v1 v2 v3 : Int) (L0 L1 : List Int), _
  intro v0 v1 v2 v3 L0 L1 hp hr hl
  replace hr : (((0) : Int) ≤ v0 ∧ v0 ≤ ((1000) : Int)) ∧ (((0) : Int) ≤ v1 ∧ v1 ≤ ((9223372036854775807) : Int)) ∧ (((1) : Int) ≤ v2 ∧ v2 ≤ ((8) : Int)) ∧ (((-9223372036854775808) : Int) ≤ v3 ∧ v3 ≤ ((9223372036854775807) : Int)) ∧ True := hr
  replace hl : (∀ x ∈ L0, (((-9223372036854775808) : Int) ≤ x ∧ x ≤ ((9223372036854775807) : Int))) ∧ (∀ x ∈ L1, (((0) : Int) ≤ x ∧ x ≤ ((18446744073709551615) : Int))) ∧ True := hl
  show eBegin_t.dn ⟨_, []⟩ 4 [v3, v2, v1, v0] 2 [L1, L0]
  rw [eBegin_vc]
  have hp : (L0.length : Int) = v0 ∧ v0 ≤ v1 ∧ (L1.length : Int) = v2 := hp
  obtain ⟨p1, p2, p3⟩ := hp
  simp only [fnSpec_post, fnSpec_pre, true_and, List.cons.injEq, and_true, List.getD_cons_zero, List.getD_cons_succ, and_imp, forall_eq, b2i_zero, b2i_eq, ne_eq, Bool.not_eq_false, Bool.not_eq_true', Bool.not_eq_false', decide_eq_true_eq, decide_eq_false_iff_not, Int.not_lt, Int.not_le]
  repeat' first | refine And.intro ?_ ?_ | intro _
  all_goals clear hl
  all_goals first | omega | skip
  all_goals grind [begE, coreOk, b2i])
noncomputable def eAck_t : Tree := .letI (.cmp .leq (.c 0) (.v 3)) (.ite (.v 5) (.letI (.cmp .lss (.v 3) (.v 2)) (.letI (.not (.v 6)) (.ite (.v 7) (.done [.c (0)] [1]) (.letI (.cmp .lss (.v 4) (.c 1)) (.ite (.v 8) (.done [.c (0)] [1]) (.letI (.cmp .lss (.v 0) (.v 4)) (.ite (.v 9) (.done [.c (0)] [1]) (.need .lss (.v 3) (.v 2) (.need .lss (.v 3) (.v 2) (.letI (.get 1 (.v 3)) (.letI (.mx (.v 10) (.v 4)) (.need .lss (.v 3) (.v 2) (.need .lss (.v 3) (.v 2) (.letL (.set 1 (.v 3) (.v 11)) (.done [.c (1)] [2]))))))))))))))) (.done [.c (0)] [1]))
theorem eAck_tree : (L2.eAck).exe Tryz.prog (L2.cfg Tryz.prog) [] 20 200 = eAck_t := by kernel_rfl
theorem eAck_vc (Q : List Int → List (List Int) → Prop) (v0 v1 v2 v3 v4 : Int) (L0 L1 : List Int) : eAck_t.dn ⟨Q, []⟩ 5 [v4, v3, v2, v1, v0] 2 [L1, L0] = ((((0 : Int) ≤ v3) → ∀ v6 : Int, v6 = b2i (decide (v3 < v2)) → ∀ v7 : Int, v7 = b2i (v6 == 0) → (v7 ≠ 0 → Q [(0 : Int)] [L1]) ∧
(v7 = 0 → ((v4 < (1 : Int)) → Q [(0 : Int)] [L1]) ∧
(((1 : Int) ≤ v4) → ((v0 < v4) → Q [(0 : Int)] [L1]) ∧
((v4 ≤ v0) → (v3 < v2) ∧ (v3 < v2) ∧ ∀ v10 : Int, v10 = (L1).getD (v3).toNat 0 → ∀ v11 : Int, v11 = (if v4 > v10 then v4 else v10) → (v3 < v2) ∧ (v3 < v2) ∧ ∀ L2 : List Int, L2 = (L1).set (v3).toNat v11 → Q [(1 : Int)] [L2])))) ∧
((v3 < (0 : Int)) → Q [(0 : Int)] [L1])) := by kernel_rfl
set_option maxHeartbeats 4000000 in
theorem eAck_holds : (L2.eAck).Holds Tryz.prog L2.ro := FSpec.holdsV (cfg := L2.cfg Tryz.prog) [] 20 200 cfg_ok mixed (t := eAck_t) eAck_tree (by
  show ∀ (v0 v1 v2 v3 v4 : Int) (L0 L1 : List Int), _
  intro v0 v1 v2 v3 v4 L0 L1 hp hr hl
  replace hr : (((0) : Int) ≤ v0 ∧ v0 ≤ ((1000) : Int)) ∧ (((0) : Int) ≤ v1 ∧ v1 ≤ ((9223372036854775807) : Int)) ∧ (((1) : Int) ≤ v2 ∧ v2 ≤ ((8) : Int)) ∧ (((-9223372036854775808) : Int) ≤ v3 ∧ v3 ≤ ((9223372036854775807) : Int)) ∧ (((0) : Int) ≤ v4 ∧ v4 ≤ ((18446744073709551615) : Int)) ∧ True := hr
  replace hl : (∀ x ∈ L0, (((-9223372036854775808) : Int) ≤ x ∧ x ≤ ((9223372036854775807) : Int))) ∧ (∀ x ∈ L1, (((0) : Int) ≤ x ∧ x ≤ ((18446744073709551615) : Int))) ∧ True := hl
  show eAck_t.dn ⟨_, []⟩ 5 [v4, v3, v2, v1, v0] 2 [L1, L0]
  rw [eAck_vc]
  have hp : (L0.length : Int) = v0 ∧ v0 ≤ v1 ∧ (L1.length : Int) = v2 := hp
  obtain ⟨p1, p2, p3⟩ := hp
  simp only [fnSpec_post, fnSpec_pre, true_and, List.cons.injEq, and_true, List.getD_cons_zero, List.getD_cons_succ, and_imp, forall_eq, b2i_zero, b2i_eq, ne_eq, Bool.not_eq_false, Bool.not_eq_true', Bool.not_eq_false', decide_eq_true_eq, decide_eq_false_iff_not, Int.not_lt, Int.not_le]
  repeat' first | refine And.intro ?_ ?_ | intro _
  all_goals clear hl
  all_goals first | omega | skip
  all_goals grind [ackE, ackOk, epOk, coreOk, b2i])
noncomputable def eWaits_t : Tree := .letI (.cmp .lss (.v 3) (.c 1)) (.ite (.v 4) (.letL (.lit []) (.done [.c (0), .c (0)] [2])) (.letI (.cmp .lss (.v 0) (.v 3)) (.ite (.v 5) (.letL (.lit []) (.done [.c (0), .c (0)] [2])) (.letL (.lit []) (.loop [.c (0), .c (0), .c (0)] [2] (.letI (.cmp .lss (.v 6) (.v 2)) (.ite (.v 9) (.need .lss (.v 6) (.v 2) (.need .lss (.v 6) (.v 2) (.letI (.get 1 (.v 6)) (.letI (.cmp .lss (.v 10) (.v 3)) (.ite (.v 11) (.letI (.sub (.v 3) (.c 1)) (.need .lss (.v 12) (.v 0) (.need .lss (.v 12) (.v 0) (.letI (.get 0 (.v 12)) (.letI (.cmp .neq (.v 6) (.v 13)) (.ite (.v 14) (.letL (.lit [.v 6]) (.letI (.add (.v 7) (.c 1)) (.need .leq (.v 15) (.c 1000000) (.need .leq (.v 7) (.v 8) (.letL (.app 3 4) (.any (.v 15) (.c 9223372036854775807) (.letI (.add (.v 6) (.c 1)) (.again [.v 17, .v 15, .v 16] [5])))))))) (.letI (.add (.v 6) (.c 1)) (.again [.v 15, .v 7, .v 8] [3])))))))) (.letI (.add (.v 6) (.c 1)) (.again [.v 12, .v 7, .v 8] [3]))))))) (.exit (.need .leq (.v 7) (.c 8) (.done [.v 7, .v 8] [3]))))))))))
theorem eWaits_tree : (L2.eWaits).exe Tryz.prog (L2.cfg Tryz.prog) [{ f := L2.f_epoch_Epochs_Waits, reg := 5, ints := [(21, 0, 8)], vecs := [(5, none)], nils := [(5, [.i .i64], L2.t_int)] }] 20 200 = eWaits_t := by kernel_rfl
theorem eWaits_vc (Q : List Int → List (List Int) → Prop) (v0 v1 v2 v3 : Int) (L0 L1 : List Int) : eWaits_t.dn ⟨Q, []⟩ 4 [v3, v2, v1, v0] 2 [L1, L0] = (((v3 < (1 : Int)) → ∀ L2 : List Int, L2 = [] → Q [(0 : Int), (0 : Int)] [L2]) ∧
(((1 : Int) ≤ v3) → ((v0 < v3) → ∀ L2 : List Int, L2 = [] → Q [(0 : Int), (0 : Int)] [L2]) ∧
((v3 ≤ v0) → ∀ L2 : List Int, L2 = [] → ∃ (I0 : List Int → List (List Int) → Prop) (μ0 : List Int → List (List Int) → Nat), I0 [(0 : Int), (0 : Int), (0 : Int)] [L2] ∧
(∀ v6 : Int, ∀ v7 : Int, ∀ v8 : Int, ∀ L3 : List Int, I0 [v6, v7, v8] [L3] →
 ((v6 < v2) → (v6 < v2) ∧ (v6 < v2) ∧ ∀ v10 : Int, v10 = (L1).getD (v6).toNat 0 → ((v10 < v3) → ∀ v12 : Int, v12 = v3 - (1 : Int) → (v12 < v0) ∧ (v12 < v0) ∧ ∀ v13 : Int, v13 = (L0).getD (v12).toNat 0 → ((v6 ≠ v13) → ∀ L4 : List Int, L4 = [v6] → ∀ v15 : Int, v15 = v7 + (1 : Int) → (v15 ≤ (1000000 : Int)) ∧ (v7 ≤ v8) ∧ ∀ L5 : List Int, L5 = L3 ++ L4 → ∀ v16 : Int, v15 ≤ v16 → v16 ≤ (9223372036854775807 : Int) → ∀ v17 : Int, v17 = v6 + (1 : Int) → (I0 [v17, v15, v16] [L5] ∧ μ0 [v17, v15, v16] [L5] < μ0 [v6, v7, v8] [L3])) ∧
((v6 = v13) → ∀ v15 : Int, v15 = v6 + (1 : Int) → (I0 [v15, v7, v8] [L3] ∧ μ0 [v15, v7, v8] [L3] < μ0 [v6, v7, v8] [L3]))) ∧
((v3 ≤ v10) → ∀ v12 : Int, v12 = v6 + (1 : Int) → (I0 [v12, v7, v8] [L3] ∧ μ0 [v12, v7, v8] [L3] < μ0 [v6, v7, v8] [L3]))) ∧
((v2 ≤ v6) → (v7 ≤ (8 : Int)) ∧ Q [v7, v8] [L3]))))) := by kernel_rfl
set_option maxHeartbeats 4000000 in
theorem eWaits_holds : (L2.eWaits).Holds Tryz.prog L2.ro := FSpec.holdsV (cfg := L2.cfg Tryz.prog) [{ f := L2.f_epoch_Epochs_Waits, reg := 5, ints := [(21, 0, 8)], vecs := [(5, none)], nils := [(5, [.i .i64], L2.t_int)] }] 20 200 cfg_ok mixed (t := eWaits_t) eWaits_tree (by
  show ∀ (v0 v1 v2 v3 : Int) (L0 L1 : List Int), _
  intro v0 v1 v2 v3 L0 L1 hp hr hl
  replace hr : (((0) : Int) ≤ v0 ∧ v0 ≤ ((1000) : Int)) ∧ (((0) : Int) ≤ v1 ∧ v1 ≤ ((9223372036854775807) : Int)) ∧ (((1) : Int) ≤ v2 ∧ v2 ≤ ((8) : Int)) ∧ (((0) : Int) ≤ v3 ∧ v3 ≤ ((18446744073709551615) : Int)) ∧ True := hr
  replace hl : (∀ x ∈ L0, (((-9223372036854775808) : Int) ≤ x ∧ x ≤ ((9223372036854775807) : Int))) ∧ (∀ x ∈ L1, (((0) : Int) ≤ x ∧ x ≤ ((18446744073709551615) : Int))) ∧ True := hl
  show eWaits_t.dn ⟨_, []⟩ 4 [v3, v2, v1, v0] 2 [L1, L0]
  rw [eWaits_vc]
  have hp : (L0.length : Int) = v0 ∧ v0 ≤ v1 ∧ (L1.length : Int) = v2 := hp
  obtain ⟨p1, p2, p3⟩ := hp
  clear hl
  refine ⟨fun c1 => ?_, fun c1 => ⟨fun c2 => ?_, fun c2 => ?_⟩⟩
  · intro L2 e2
    subst e2
    have : waitsE L0 L1 v3 = [] := by simp [waitsE, epOk]; omega
    show (0 : Int) = ((waitsE L0 L1 v3).length : Int) ∧ (0 : Int) ≤ 0 ∧ [([] : List Int)] = [waitsE L0 L1 v3]
    rw [this]; simp
  · intro L2 e2
    subst e2
    have : waitsE L0 L1 v3 = [] := by simp [waitsE, epOk]; omega
    show (0 : Int) = ((waitsE L0 L1 v3).length : Int) ∧ (0 : Int) ≤ 0 ∧ [([] : List Int)] = [waitsE L0 L1 v3]
    rw [this]; simp
  · intro L2 e2
    refine ⟨fun xs ys => match xs, ys with | [i, n, c], [L] => 0 ≤ i ∧ i ≤ v2 ∧ L = wtE L0 L1 v3 i.toNat ∧ n = (L.length : Int) ∧ n ≤ c | _, _ => False, fun xs _ => match xs with | i :: _ => (v2 - i).toNat | _ => 0, ?_, ?_⟩ <;> dsimp only
    · subst e2; exact ⟨by omega, by omega, rfl, rfl, by omega⟩
    · intro i n c L hI
      obtain ⟨i0, i8, hL, hn, hc⟩ := hI
      obtain ⟨k, rfl⟩ : ∃ k : Nat, i = k := ⟨i.toNat, by omega⟩
      rw [Int.toNat_natCast] at hL
      have hlen := wtE_len L0 L1 v3 k
      have hup := wtE_succ L0 L1 v3 k
      have hll : L.length ≤ k := by rw [hL]; exact hlen
      refine ⟨fun c3 => ⟨by omega, by omega, ?_⟩, fun c3 => ?_⟩
      · intro x ex
        have hx : x = L1.getD k 0 := by rw [ex]; rfl
        refine ⟨fun c4 => ?_, fun c4 => ?_⟩
        · intro y ey
          refine ⟨by omega, by omega, ?_⟩
          intro z ez
          have hz : z = L0.getD (v3 - 1).toNat 0 := by rw [ez, ey]
          refine ⟨fun c5 => ?_, fun c5 => ?_⟩
          · intro M eM m em
            rw [if_pos ⟨by omega, by omega⟩] at hup
            refine ⟨by omega, by omega, ?_⟩
            intro N eN r h1 h2 j ej
            refine ⟨⟨by omega, by omega, ?_, ?_, by omega⟩, by omega⟩
            · rw [ej, show ((k : Int) + 1).toNat = k + 1 by omega, hup, eN, eM, hL]
            · rw [eN, eM, List.length_append, List.length_singleton, em, hn]; push_cast; rfl
          · intro j ej
            rw [if_neg (fun h => h.2 (by omega))] at hup
            refine ⟨⟨by omega, by omega, ?_, hn, hc⟩, by omega⟩
            rw [ej, show ((k : Int) + 1).toNat = k + 1 by omega, hup, hL]
        · intro j ej
          rw [if_neg (fun h => by omega)] at hup
          refine ⟨⟨by omega, by omega, ?_, hn, hc⟩, by omega⟩
          rw [ej, show ((k : Int) + 1).toNat = k + 1 by omega, hup, hL]
      · have hk : k = L1.length := by omega
        have hw : waitsE L0 L1 v3 = wtE L0 L1 v3 k := by
          rw [hk]; unfold waitsE; rw [if_pos (by simp [epOk]; omega)]
        refine ⟨by omega, ?_⟩
        show n = ((waitsE L0 L1 v3).length : Int) ∧ n ≤ c ∧ [L] = [waitsE L0 L1 v3]
        rw [hw, ← hL]
        exact ⟨hn, hc, rfl⟩)
end Go.Proofs.YtegeplgckfpleaaGreatDoor
