/- Contract: a load, a store by a buffer and a table. -/
import Derived.Test.YtegeplgckfpleaaGreatDoorL2Kw
import Derived.Test.YtegeplgckfpleaaGreatDoorL2Ua
import Derived.Test.YtegeplgckfpleaaGreatDoorL2V3
set_option linter.unusedVariables false
set_option linter.unusedSimpArgs false
open Go Go.Sx
namespace Go.Proofs.YtegeplgckfpleaaGreatDoor
set_option maxRecDepth 100000
theorem uv3_ok : (withS (L2.cfg Tryz.prog) [L2.check_ L2.f_word_Check, L2.kind_ L2.f_word_Kind, L2.uWalk, L2.uTouch 3]).Ok Tryz.prog := withS_ok cfg_ok ⟨wCheck_holds, wKind_holds, uWalk_holds, uTouch3_holds, trivial⟩
noncomputable def uDoM3_t : Tree := .call 80 (Go.Sx.L2.check_ Go.Sx.L2.f_word_Check).rel [.v 2, .v 3, .v 4, .v 5, .v 6, .c (4)] [] 1 0 (.call 81 (Go.Sx.L2.kind_ Go.Sx.L2.f_word_Kind).rel [.v 2, .v 3, .v 4, .v 5, .v 6] [] 2 0 (.letI (.cmp .lss (.v 1) (.c 0)) (.ite (.v 10) (.done [.c (10), .c (0), .c (0), .c (0), .c (0), .c (0)] [0, 2, 3, 4]) (.letI (.cmp .leq (.c 4) (.v 1)) (.ite (.v 11) (.done [.c (10), .c (0), .c (0), .c (0), .c (0), .c (0)] [0, 2, 3, 4]) (.letI (.cmp .leq (.c 20) (.v 8)) (.ite (.v 12) (.letI (.cmp .neq (.v 7) (.c 0)) (.ite (.v 13) (.done [.v 7, .c (0), .c (0), .c (0), .c (0), .c (0)] [0, 2, 3, 4]) (.letI (.wr .i64 (.v 3)) (.call 22 (Go.Sx.L2.uWalk).rel [.v 1, .v 14, .v 8] [0, 1] 5 1 (.letI (.not (.v 19)) (.ite (.v 20) (.done [.c (7), .c (0), .c (0), .c (0), .c (0), .c (0)] [5, 2, 3, 4]) (.call 83 (Go.Sx.L2.uTouch 3).rel [.v 0, .v 17, .v 2, .v 3, .v 4, .v 5, .v 6] [2, 3, 4] 1 3 (.done [.c (0), .v 21, .v 15, .v 16, .v 17, .v 18] [5, 6, 7, 8])))))))) (.done [.c (1), .c (0), .c (0), .c (0), .c (0), .c (0)] [0, 2, 3, 4]))))))))
theorem uDoM3_tree : (L2.uDo 3).exe Tryz.prog (withS (L2.cfg Tryz.prog) [L2.check_ L2.f_word_Check, L2.kind_ L2.f_word_Kind, L2.uWalk, L2.uTouch 3]) [] 20 200 = uDoM3_t := by kernel_rfl
theorem uDoM3_vc (Q : List Int → List (List Int) → Prop) (v0 v1 v2 v3 v4 v5 v6 : Int) (L0 L1 L2 L3 L4 : List Int) : uDoM3_t.dn ⟨Q, []⟩ 7 [v6, v5, v4, v3, v2, v1, v0] 5 [L4, L3, L2, L1, L0] = ((Go.Sx.L2.check_ Go.Sx.L2.f_word_Check).rel.pre [v2, v3, v4, v5, v6, (4 : Int)] [] ∧
(∀ v7 : Int, (Go.Sx.L2.check_ Go.Sx.L2.f_word_Check).rel.post [v2, v3, v4, v5, v6, (4 : Int)] [] [v7] [] → (Go.Sx.L2.kind_ Go.Sx.L2.f_word_Kind).rel.pre [v2, v3, v4, v5, v6] [] ∧
(∀ v8 : Int, ∀ v9 : Int, (Go.Sx.L2.kind_ Go.Sx.L2.f_word_Kind).rel.post [v2, v3, v4, v5, v6] [] [v8, v9] [] → ((v1 < (0 : Int)) → Q [(10 : Int), (0 : Int), (0 : Int), (0 : Int), (0 : Int), (0 : Int)] [L0, L2, L3, L4]) ∧
(((0 : Int) ≤ v1) → (((4 : Int) ≤ v1) → Q [(10 : Int), (0 : Int), (0 : Int), (0 : Int), (0 : Int), (0 : Int)] [L0, L2, L3, L4]) ∧
((v1 < (4 : Int)) → (((20 : Int) ≤ v8) → ((v7 ≠ (0 : Int)) → Q [v7, (0 : Int), (0 : Int), (0 : Int), (0 : Int), (0 : Int)] [L0, L2, L3, L4]) ∧
((v7 = (0 : Int)) → ∀ v14 : Int, v14 = IntKind.wrap .i64 v3 → (Go.Sx.L2.uWalk).rel.pre [v1, v14, v8] [L0, L1] ∧
(∀ v15 : Int, ∀ v16 : Int, ∀ v17 : Int, ∀ v18 : Int, ∀ v19 : Int, ∀ L5 : List Int, (Go.Sx.L2.uWalk).rel.post [v1, v14, v8] [L0, L1] [v15, v16, v17, v18, v19] [L5] → ∀ v20 : Int, v20 = b2i (v19 == 0) → (v20 ≠ 0 → Q [(7 : Int), (0 : Int), (0 : Int), (0 : Int), (0 : Int), (0 : Int)] [L5, L2, L3, L4]) ∧
(v20 = 0 → (Go.Sx.L2.uTouch 3).rel.pre [v0, v17, v2, v3, v4, v5, v6] [L2, L3, L4] ∧
(∀ v21 : Int, ∀ L6 : List Int, ∀ L7 : List Int, ∀ L8 : List Int, (Go.Sx.L2.uTouch 3).rel.post [v0, v17, v2, v3, v4, v5, v6] [L2, L3, L4] [v21] [L6, L7, L8] → Q [(0 : Int), v21, v15, v16, v17, v18] [L5, L6, L7, L8]))))) ∧
((v8 < (20 : Int)) → Q [(1 : Int), (0 : Int), (0 : Int), (0 : Int), (0 : Int), (0 : Int)] [L0, L2, L3, L4])))))) := by kernel_rfl
set_option maxHeartbeats 4000000 in
theorem uDoM3_holds : (L2.uDo 3).Holds Tryz.prog L2.ro := FSpec.holdsV (cfg := withS (L2.cfg Tryz.prog) [L2.check_ L2.f_word_Check, L2.kind_ L2.f_word_Kind, L2.uWalk, L2.uTouch 3]) [] 20 200 uv3_ok mixed (t := uDoM3_t) uDoM3_tree (by
  show ∀ (v0 v1 v2 v3 v4 v5 v6 : Int) (L0 L1 L2 L3 L4 : List Int), _
  intro v0 v1 v2 v3 v4 v5 v6 L0 L1 L2 L3 L4 hp hr hl
  replace hr : (((3) : Int) ≤ v0 ∧ v0 ≤ ((9223372036854775807) : Int)) ∧ (((-9223372036854775808) : Int) ≤ v1 ∧ v1 ≤ ((9223372036854775807) : Int)) ∧ (((0) : Int) ≤ v2 ∧ v2 ≤ ((18446744073709551615) : Int)) ∧ (((0) : Int) ≤ v3 ∧ v3 ≤ ((18446744073709551615) : Int)) ∧ (((0) : Int) ≤ v4 ∧ v4 ≤ ((18446744073709551615) : Int)) ∧ (((0) : Int) ≤ v5 ∧ v5 ≤ ((18446744073709551615) : Int)) ∧ (((0) : Int) ≤ v6 ∧ v6 ≤ ((18446744073709551615) : Int)) ∧ True := hr
  replace hl : (∀ x ∈ L0, (((-9223372036854775808) : Int) ≤ x ∧ x ≤ ((9223372036854775807) : Int))) ∧ (∀ x ∈ L1, (((-9223372036854775808) : Int) ≤ x ∧ x ≤ ((9223372036854775807) : Int))) ∧ (∀ x ∈ L2, (((0) : Int) ≤ x ∧ x ≤ ((18446744073709551615) : Int))) ∧ (∀ x ∈ L3, (((0) : Int) ≤ x ∧ x ≤ ((18446744073709551615) : Int))) ∧ (∀ x ∈ L4, (((0) : Int) ≤ x ∧ x ≤ ((18446744073709551615) : Int))) ∧ True := hl
  show uDoM3_t.dn ⟨_, []⟩ 7 [v6, v5, v4, v3, v2, v1, v0] 5 [L4, L3, L2, L1, L0]
  rw [uDoM3_vc]
  have hlen : _root_.Go.Sx.L2.mLen 3 [L0, L1, L2, L3, L4] 2 := hp
  refine ⟨trivial, fun c hc => ⟨trivial, fun kd ok hk => ?_⟩⟩
  have hc : c = checkN v2 v3 v4 v5 v6 4 := by
    have : [c] = [checkN v2 v3 v4 v5 v6 4] := hc
    simpa using this
  have hk : kd = callN v2 := by
    have : [kd, ok] = [callN v2, b2i (callOk v2)] := hk
    simp at this; exact this.1
  have hu := user_kind v2
  rw [← hk] at hu
  refine ⟨fun c1 => ?_, fun c1 => ⟨fun c2 => ?_, fun c2 => ⟨fun c3 => ⟨fun c4 => ?_, fun c4 => ?_⟩, fun c3 => ?_⟩⟩⟩
  · have hE : doE v1 v2 v3 v4 v5 v6 = 10 := by unfold doE; rw [if_pos (.inl c1)]
    have F := do_fail (B := L0) (T := L1) (Ls := [L2, L3, L4]) (K := 3) (show doE v1 v2 v3 v4 v5 v6 ≠ 0 by rw [hE]; first | decide | assumption)
    show [10, 0, 0, 0, 0, 0] = [doR L0 L1 v1 v2 v3 v4 v5 v6, doV L0 L1 [L2, L3, L4] 3 v1 v2 v3 v4 v5 v6, doW L0 L1 v1 v2 v3 v4 v5 v6 0, doW L0 L1 v1 v2 v3 v4 v5 v6 1, doW L0 L1 v1 v2 v3 v4 v5 v6 2, doW L0 L1 v1 v2 v3 v4 v5 v6 3] ∧ [L0, L2, L3, L4] = doB L0 L1 v1 v2 v3 v4 v5 v6 :: (List.range 3).map fun j => doM L0 L1 [L2, L3, L4] 3 v1 v2 v3 v4 v5 v6 j
    rw [range3, F.1, F.2.1, F.2.2.1, F.2.2.1, F.2.2.1, F.2.2.1, F.2.2.2.1, hE]
    simp only [F.2.2.2.2]
    exact ⟨by first | rfl | trivial, by first | rfl | trivial⟩
  · have hE : doE v1 v2 v3 v4 v5 v6 = 10 := by unfold doE; rw [if_pos (.inr c2)]
    have F := do_fail (B := L0) (T := L1) (Ls := [L2, L3, L4]) (K := 3) (show doE v1 v2 v3 v4 v5 v6 ≠ 0 by rw [hE]; first | decide | assumption)
    show [10, 0, 0, 0, 0, 0] = [doR L0 L1 v1 v2 v3 v4 v5 v6, doV L0 L1 [L2, L3, L4] 3 v1 v2 v3 v4 v5 v6, doW L0 L1 v1 v2 v3 v4 v5 v6 0, doW L0 L1 v1 v2 v3 v4 v5 v6 1, doW L0 L1 v1 v2 v3 v4 v5 v6 2, doW L0 L1 v1 v2 v3 v4 v5 v6 3] ∧ [L0, L2, L3, L4] = doB L0 L1 v1 v2 v3 v4 v5 v6 :: (List.range 3).map fun j => doM L0 L1 [L2, L3, L4] 3 v1 v2 v3 v4 v5 v6 j
    rw [range3, F.1, F.2.1, F.2.2.1, F.2.2.1, F.2.2.1, F.2.2.1, F.2.2.2.1, hE]
    simp only [F.2.2.2.2]
    exact ⟨by first | rfl | trivial, by first | rfl | trivial⟩
  · have hk2 := hu.1 c3
    have hE : doE v1 v2 v3 v4 v5 v6 = c := by unfold doE; rw [if_neg (by omega), if_neg (by omega), hc]
    have F := do_fail (B := L0) (T := L1) (Ls := [L2, L3, L4]) (K := 3) (show doE v1 v2 v3 v4 v5 v6 ≠ 0 by rw [hE]; first | decide | assumption)
    show [c, 0, 0, 0, 0, 0] = [doR L0 L1 v1 v2 v3 v4 v5 v6, doV L0 L1 [L2, L3, L4] 3 v1 v2 v3 v4 v5 v6, doW L0 L1 v1 v2 v3 v4 v5 v6 0, doW L0 L1 v1 v2 v3 v4 v5 v6 1, doW L0 L1 v1 v2 v3 v4 v5 v6 2, doW L0 L1 v1 v2 v3 v4 v5 v6 3] ∧ [L0, L2, L3, L4] = doB L0 L1 v1 v2 v3 v4 v5 v6 :: (List.range 3).map fun j => doM L0 L1 [L2, L3, L4] 3 v1 v2 v3 v4 v5 v6 j
    rw [range3, F.1, F.2.1, F.2.2.1, F.2.2.1, F.2.2.1, F.2.2.1, F.2.2.2.1, hE]
    simp only [F.2.2.2.2]
    exact ⟨by first | rfl | trivial, by first | rfl | trivial⟩
  · have hk2 := hu.1 c3
    have ha := user_args hk2.1 hk2.2.1 (hc.symm.trans c4)
    have hE : doE v1 v2 v3 v4 v5 v6 = 0 := by unfold doE; rw [if_neg (by omega), if_neg (by omega), ← hc]; exact c4
    intro pg epg
    have hpg : pg = v3 := by rw [epg, wrapI]; omega
    refine ⟨trivial, fun w0 w1 w2 w3 wok B' hw => ?_⟩
    rw [hpg, hk2.2.2] at hw
    have hB : B' = walkB L0 L1 v1 v3 v2 := by
      have : [B'] = [walkB L0 L1 v1 v3 v2] := hw.2
      simpa using this
    have hw : [w0, w1, w2, w3, wok] = [walkV L0 L1 v1 v3 v2 0, walkV L0 L1 v1 v3 v2 1, walkV L0 L1 v1 v3 v2 2, walkV L0 L1 v1 v3 v2 3, b2i (walkOk L0 L1 v1 v3 v2)] := hw.1
    simp only [List.cons.injEq, and_true] at hw
    obtain ⟨h0, h1, h2, h3, h4⟩ := hw
    intro z ez
    refine ⟨fun c5 => ?_, fun c5 => ?_⟩
    · have hW : walkOk L0 L1 v1 v3 v2 = false := by
        cases e : walkOk L0 L1 v1 v3 v2 with
        | false => rfl
        | true => rw [e] at h4; rw [h4] at ez; exact absurd ez c5
      have F := do_fault (B := L0) (T := L1) (Ls := [L2, L3, L4]) (K := 3) hE hW
      show [7, 0, 0, 0, 0, 0] = [doR L0 L1 v1 v2 v3 v4 v5 v6, doV L0 L1 [L2, L3, L4] 3 v1 v2 v3 v4 v5 v6, doW L0 L1 v1 v2 v3 v4 v5 v6 0, doW L0 L1 v1 v2 v3 v4 v5 v6 1, doW L0 L1 v1 v2 v3 v4 v5 v6 2, doW L0 L1 v1 v2 v3 v4 v5 v6 3] ∧ [B', L2, L3, L4] = doB L0 L1 v1 v2 v3 v4 v5 v6 :: (List.range 3).map fun j => doM L0 L1 [L2, L3, L4] 3 v1 v2 v3 v4 v5 v6 j
      rw [range3, F.1, F.2.1, F.2.2.1, F.2.2.1, F.2.2.1, F.2.2.1, F.2.2.2.1, hB]
      simp only [F.2.2.2.2]
      exact ⟨by first | rfl | trivial, by first | rfl | trivial⟩
    · have hW : walkOk L0 L1 v1 v3 v2 = true := by
        cases e : walkOk L0 L1 v1 v3 v2 with
        | true => rfl
        | false => rw [e] at h4; rw [h4, c5] at ez; cases ez
      have F := do_ok (B := L0) (T := L1) (Ls := [L2, L3, L4]) (K := 3) hE hW
      refine ⟨⟨ha.2, fun j hj => ?_⟩, ?_⟩
      · have := hlen j hj
        rw [show [L2, L3, L4].getD (0 + j) ([] : List Int) = [L0, L1, L2, L3, L4].getD (2 + j) [] by rw [Nat.zero_add, Nat.add_comm 2 j]; rfl]
        exact this
      · intro val T0 T1 T2 ht
        have ht : [val] = [touchV [L2, L3, L4] 3 w2 v2 v4] ∧ [T0, T1, T2] = (List.range 3).map fun j => touchL [L2, L3, L4] 3 w2 v2 v4 v5 v6 j := ht
        rw [h2, range3] at ht
        have hv : val = touchV [L2, L3, L4] 3 (walkV L0 L1 v1 v3 v2 2) v2 v4 := by simpa using ht.1
        show [0, val, w0, w1, w2, w3] = [doR L0 L1 v1 v2 v3 v4 v5 v6, doV L0 L1 [L2, L3, L4] 3 v1 v2 v3 v4 v5 v6, doW L0 L1 v1 v2 v3 v4 v5 v6 0, doW L0 L1 v1 v2 v3 v4 v5 v6 1, doW L0 L1 v1 v2 v3 v4 v5 v6 2, doW L0 L1 v1 v2 v3 v4 v5 v6 3] ∧ [B', T0, T1, T2] = doB L0 L1 v1 v2 v3 v4 v5 v6 :: (List.range 3).map fun j => doM L0 L1 [L2, L3, L4] 3 v1 v2 v3 v4 v5 v6 j
        rw [range3, F.1, F.2.1, F.2.2.1, F.2.2.1, F.2.2.1, F.2.2.1, F.2.2.2.1, hB, hv, h0, h1, h2, h3]
        simp only [F.2.2.2.2]
        exact ⟨by first | rfl | trivial, by rw [ht.2]⟩
  · have hE : doE v1 v2 v3 v4 v5 v6 = 1 := by unfold doE; rw [if_neg (by omega), if_pos (hu.2 (by omega))]
    have F := do_fail (B := L0) (T := L1) (Ls := [L2, L3, L4]) (K := 3) (show doE v1 v2 v3 v4 v5 v6 ≠ 0 by rw [hE]; first | decide | assumption)
    show [1, 0, 0, 0, 0, 0] = [doR L0 L1 v1 v2 v3 v4 v5 v6, doV L0 L1 [L2, L3, L4] 3 v1 v2 v3 v4 v5 v6, doW L0 L1 v1 v2 v3 v4 v5 v6 0, doW L0 L1 v1 v2 v3 v4 v5 v6 1, doW L0 L1 v1 v2 v3 v4 v5 v6 2, doW L0 L1 v1 v2 v3 v4 v5 v6 3] ∧ [L0, L2, L3, L4] = doB L0 L1 v1 v2 v3 v4 v5 v6 :: (List.range 3).map fun j => doM L0 L1 [L2, L3, L4] 3 v1 v2 v3 v4 v5 v6 j
    rw [range3, F.1, F.2.1, F.2.2.1, F.2.2.1, F.2.2.1, F.2.2.1, F.2.2.2.1, hE]
    simp only [F.2.2.2.2]
    exact ⟨by first | rfl | trivial, by first | rfl | trivial⟩)
end Go.Proofs.YtegeplgckfpleaaGreatDoor
