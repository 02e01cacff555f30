/- The executor: texts of it, one behind another. -/
import Derived.Test.YtbpilohnhhbbpaaGreatDoorL2CA
import Derived.Test.YtbpilohnhhbbpaaGreatDoorL2V16
import Derived.Test.YtbpilohnhhbbpaaGreatDoorL2Facts
import Derived.Test.YtbpilohnhhbbpaaGreatDoorSxM7
import Derived.Test.YtbpilohnhhbbpaaGreatDoorL2S
set_option linter.unusedVariables false
set_option linter.constructorNameAsVariable false
/- Contract: a load, a store by a buffer and a table. -/
set_option linter.unusedVariables false
set_option linter.unusedSimpArgs false
open Go Go.Sx
namespace Go.Proofs.YtbpilohnhhbbpaaGreatDoor
set_option maxRecDepth 100000
theorem uv16_ok : (withS (L2.cfg Tryz.prog) [L2.check_ L2.f_word_Check, L2.kind_ L2.f_word_Kind, L2.uWalk, L2.uTouch 16]).Ok Tryz.prog := withS_ok cfg_ok ⟨wCheck_holds, wKind_holds, uWalk_holds, uTouch16_holds, trivial⟩
noncomputable def uDoM16_t : Tree := .call 51 (Go.Sx.L2.check_ Go.Sx.L2.f_word_Check).rel [.v 2, .v 3, .v 4, .v 5, .v 6, .c (4)] [] 1 0 (.call 61 (Go.Sx.L2.kind_ Go.Sx.L2.f_word_Kind).rel [.v 2, .v 3, .v 4, .v 5, .v 6] [] 2 0 (.letI (.cmp .lss (.v 1) (.c 0)) (.ite (.v 10) (.done [.c (10), .c (0), .c (0), .c (0), .c (0), .c (0)] [0, 2, 3, 4, 5, 6, 7, 8, 9, 10, 11, 12, 13, 14, 15, 16, 17]) (.letI (.cmp .leq (.c 4) (.v 1)) (.ite (.v 11) (.done [.c (10), .c (0), .c (0), .c (0), .c (0), .c (0)] [0, 2, 3, 4, 5, 6, 7, 8, 9, 10, 11, 12, 13, 14, 15, 16, 17]) (.letI (.cmp .leq (.c 20) (.v 8)) (.ite (.v 12) (.letI (.cmp .neq (.v 7) (.c 0)) (.ite (.v 13) (.done [.v 7, .c (0), .c (0), .c (0), .c (0), .c (0)] [0, 2, 3, 4, 5, 6, 7, 8, 9, 10, 11, 12, 13, 14, 15, 16, 17]) (.letI (.wr .i64 (.v 3)) (.call 74 (Go.Sx.L2.uWalk).rel [.v 1, .v 14, .v 8] [0, 1] 5 1 (.letI (.not (.v 19)) (.ite (.v 20) (.done [.c (7), .c (0), .c (0), .c (0), .c (0), .c (0)] [18, 2, 3, 4, 5, 6, 7, 8, 9, 10, 11, 12, 13, 14, 15, 16, 17]) (.call 75 (Go.Sx.L2.uTouch 16).rel [.v 0, .v 17, .v 2, .v 3, .v 4, .v 5, .v 6] [2, 3, 4, 5, 6, 7, 8, 9, 10, 11, 12, 13, 14, 15, 16, 17] 1 16 (.done [.c (0), .v 21, .v 15, .v 16, .v 17, .v 18] [18, 19, 20, 21, 22, 23, 24, 25, 26, 27, 28, 29, 30, 31, 32, 33, 34])))))))) (.done [.c (1), .c (0), .c (0), .c (0), .c (0), .c (0)] [0, 2, 3, 4, 5, 6, 7, 8, 9, 10, 11, 12, 13, 14, 15, 16, 17]))))))))
theorem uDoM16_tree : (L2.uDo 16).exe Tryz.prog (withS (L2.cfg Tryz.prog) [L2.check_ L2.f_word_Check, L2.kind_ L2.f_word_Kind, L2.uWalk, L2.uTouch 16]) [] 20 200 = uDoM16_t := by kernel_rfl
theorem uDoM16_vc (Q : List Int → List (List Int) → Prop) (v0 v1 v2 v3 v4 v5 v6 : Int) (L0 L1 L2 L3 L4 L5 L6 L7 L8 L9 L10 L11 L12 L13 L14 L15 L16 L17 : List Int) : uDoM16_t.dn ⟨Q, []⟩ 7 [v6, v5, v4, v3, v2, v1, v0] 18 [L17, L16, L15, L14, L13, L12, L11, L10, L9, L8, L7, L6, L5, L4, L3, L2, L1, L0] = ((Go.Sx.L2.check_ Go.Sx.L2.f_word_Check).rel.pre [v2, v3, v4, v5, v6, (4 : Int)] [] ∧
(∀ v7 : Int, (Go.Sx.L2.check_ Go.Sx.L2.f_word_Check).rel.post [v2, v3, v4, v5, v6, (4 : Int)] [] [v7] [] → (Go.Sx.L2.kind_ Go.Sx.L2.f_word_Kind).rel.pre [v2, v3, v4, v5, v6] [] ∧
(∀ v8 : Int, ∀ v9 : Int, (Go.Sx.L2.kind_ Go.Sx.L2.f_word_Kind).rel.post [v2, v3, v4, v5, v6] [] [v8, v9] [] → ((v1 < (0 : Int)) → Q [(10 : Int), (0 : Int), (0 : Int), (0 : Int), (0 : Int), (0 : Int)] [L0, L2, L3, L4, L5, L6, L7, L8, L9, L10, L11, L12, L13, L14, L15, L16, L17]) ∧
(((0 : Int) ≤ v1) → (((4 : Int) ≤ v1) → Q [(10 : Int), (0 : Int), (0 : Int), (0 : Int), (0 : Int), (0 : Int)] [L0, L2, L3, L4, L5, L6, L7, L8, L9, L10, L11, L12, L13, L14, L15, L16, L17]) ∧
((v1 < (4 : Int)) → (((20 : Int) ≤ v8) → ((v7 ≠ (0 : Int)) → Q [v7, (0 : Int), (0 : Int), (0 : Int), (0 : Int), (0 : Int)] [L0, L2, L3, L4, L5, L6, L7, L8, L9, L10, L11, L12, L13, L14, L15, L16, L17]) ∧
((v7 = (0 : Int)) → ∀ v14 : Int, v14 = IntKind.wrap .i64 v3 → (Go.Sx.L2.uWalk).rel.pre [v1, v14, v8] [L0, L1] ∧
(∀ v15 : Int, ∀ v16 : Int, ∀ v17 : Int, ∀ v18 : Int, ∀ v19 : Int, ∀ L18 : List Int, (Go.Sx.L2.uWalk).rel.post [v1, v14, v8] [L0, L1] [v15, v16, v17, v18, v19] [L18] → ∀ v20 : Int, v20 = b2i (v19 == 0) → (v20 ≠ 0 → Q [(7 : Int), (0 : Int), (0 : Int), (0 : Int), (0 : Int), (0 : Int)] [L18, L2, L3, L4, L5, L6, L7, L8, L9, L10, L11, L12, L13, L14, L15, L16, L17]) ∧
(v20 = 0 → (Go.Sx.L2.uTouch 16).rel.pre [v0, v17, v2, v3, v4, v5, v6] [L2, L3, L4, L5, L6, L7, L8, L9, L10, L11, L12, L13, L14, L15, L16, L17] ∧
(∀ v21 : Int, ∀ L19 : List Int, ∀ L20 : List Int, ∀ L21 : List Int, ∀ L22 : List Int, ∀ L23 : List Int, ∀ L24 : List Int, ∀ L25 : List Int, ∀ L26 : List Int, ∀ L27 : List Int, ∀ L28 : List Int, ∀ L29 : List Int, ∀ L30 : List Int, ∀ L31 : List Int, ∀ L32 : List Int, ∀ L33 : List Int, ∀ L34 : List Int, (Go.Sx.L2.uTouch 16).rel.post [v0, v17, v2, v3, v4, v5, v6] [L2, L3, L4, L5, L6, L7, L8, L9, L10, L11, L12, L13, L14, L15, L16, L17] [v21] [L19, L20, L21, L22, L23, L24, L25, L26, L27, L28, L29, L30, L31, L32, L33, L34] → Q [(0 : Int), v21, v15, v16, v17, v18] [L18, L19, L20, L21, L22, L23, L24, L25, L26, L27, L28, L29, L30, L31, L32, L33, L34]))))) ∧
((v8 < (20 : Int)) → Q [(1 : Int), (0 : Int), (0 : Int), (0 : Int), (0 : Int), (0 : Int)] [L0, L2, L3, L4, L5, L6, L7, L8, L9, L10, L11, L12, L13, L14, L15, L16, L17])))))) := by kernel_rfl
set_option maxHeartbeats 4000000 in
theorem uDoM16_holds : (L2.uDo 16).Holds Tryz.prog L2.ro := FSpec.holdsV (cfg := withS (L2.cfg Tryz.prog) [L2.check_ L2.f_word_Check, L2.kind_ L2.f_word_Kind, L2.uWalk, L2.uTouch 16]) [] 20 200 uv16_ok mixed (t := uDoM16_t) uDoM16_tree (by
  show ∀ (v0 v1 v2 v3 v4 v5 v6 : Int) (L0 L1 L2 L3 L4 L5 L6 L7 L8 L9 L10 L11 L12 L13 L14 L15 L16 L17 : List Int), _
  intro v0 v1 v2 v3 v4 v5 v6 L0 L1 L2 L3 L4 L5 L6 L7 L8 L9 L10 L11 L12 L13 L14 L15 L16 L17 hp hr hl
  replace hr : (((16) : Int) ≤ v0 ∧ v0 ≤ ((9223372036854775807) : Int)) ∧ (((-9223372036854775808) : Int) ≤ v1 ∧ v1 ≤ ((9223372036854775807) : Int)) ∧ (((0) : Int) ≤ v2 ∧ v2 ≤ ((18446744073709551615) : Int)) ∧ (((0) : Int) ≤ v3 ∧ v3 ≤ ((18446744073709551615) : Int)) ∧ (((0) : Int) ≤ v4 ∧ v4 ≤ ((18446744073709551615) : Int)) ∧ (((0) : Int) ≤ v5 ∧ v5 ≤ ((18446744073709551615) : Int)) ∧ (((0) : Int) ≤ v6 ∧ v6 ≤ ((18446744073709551615) : Int)) ∧ True := hr
  replace hl : (∀ x ∈ L0, (((-9223372036854775808) : Int) ≤ x ∧ x ≤ ((9223372036854775807) : Int))) ∧ (∀ x ∈ L1, (((-9223372036854775808) : Int) ≤ x ∧ x ≤ ((9223372036854775807) : Int))) ∧ (∀ x ∈ L2, (((0) : Int) ≤ x ∧ x ≤ ((18446744073709551615) : Int))) ∧ (∀ x ∈ L3, (((0) : Int) ≤ x ∧ x ≤ ((18446744073709551615) : Int))) ∧ (∀ x ∈ L4, (((0) : Int) ≤ x ∧ x ≤ ((18446744073709551615) : Int))) ∧ (∀ x ∈ L5, (((0) : Int) ≤ x ∧ x ≤ ((18446744073709551615) : Int))) ∧ (∀ x ∈ L6, (((0) : Int) ≤ x ∧ x ≤ ((18446744073709551615) : Int))) ∧ (∀ x ∈ L7, (((0) : Int) ≤ x ∧ x ≤ ((18446744073709551615) : Int))) ∧ (∀ x ∈ L8, (((0) : Int) ≤ x ∧ x ≤ ((18446744073709551615) : Int))) ∧ (∀ x ∈ L9, (((0) : Int) ≤ x ∧ x ≤ ((18446744073709551615) : Int))) ∧ (∀ x ∈ L10, (((0) : Int) ≤ x ∧ x ≤ ((18446744073709551615) : Int))) ∧ (∀ x ∈ L11, (((0) : Int) ≤ x ∧ x ≤ ((18446744073709551615) : Int))) ∧ (∀ x ∈ L12, (((0) : Int) ≤ x ∧ x ≤ ((18446744073709551615) : Int))) ∧ (∀ x ∈ L13, (((0) : Int) ≤ x ∧ x ≤ ((18446744073709551615) : Int))) ∧ (∀ x ∈ L14, (((0) : Int) ≤ x ∧ x ≤ ((18446744073709551615) : Int))) ∧ (∀ x ∈ L15, (((0) : Int) ≤ x ∧ x ≤ ((18446744073709551615) : Int))) ∧ (∀ x ∈ L16, (((0) : Int) ≤ x ∧ x ≤ ((18446744073709551615) : Int))) ∧ (∀ x ∈ L17, (((0) : Int) ≤ x ∧ x ≤ ((18446744073709551615) : Int))) ∧ True := hl
  show uDoM16_t.dn ⟨_, []⟩ 7 [v6, v5, v4, v3, v2, v1, v0] 18 [L17, L16, L15, L14, L13, L12, L11, L10, L9, L8, L7, L6, L5, L4, L3, L2, L1, L0]
  rw [uDoM16_vc]
  have hlen : _root_.Go.Sx.L2.mLen 16 [L0, L1, L2, L3, L4, L5, L6, L7, L8, L9, L10, L11, L12, L13, L14, L15, L16, L17] 2 := hp
  refine ⟨trivial, fun c hc => ⟨trivial, fun kd ok hk => ?_⟩⟩
  have hc : c = checkN v2 v3 v4 v5 v6 4 := by
    have : [c] = [checkN v2 v3 v4 v5 v6 4] := hc
    simpa using this
  have hk : kd = callN v2 := by
    have : [kd, ok] = [callN v2, b2i (callOk v2)] := hk
    simp at this; exact this.1
  have hu := user_kind v2
  rw [← hk] at hu
  refine ⟨fun c1 => ?_, fun c1 => ⟨fun c2 => ?_, fun c2 => ⟨fun c3 => ⟨fun c4 => ?_, fun c4 => ?_⟩, fun c3 => ?_⟩⟩⟩
  · have hE : doE v1 v2 v3 v4 v5 v6 = 10 := by unfold doE; rw [if_pos (.inl c1)]
    have F := do_fail (B := L0) (T := L1) (Ls := [L2, L3, L4, L5, L6, L7, L8, L9, L10, L11, L12, L13, L14, L15, L16, L17]) (K := 16) (show doE v1 v2 v3 v4 v5 v6 ≠ 0 by rw [hE]; first | decide | assumption)
    show [10, 0, 0, 0, 0, 0] = [doR L0 L1 v1 v2 v3 v4 v5 v6, doV L0 L1 [L2, L3, L4, L5, L6, L7, L8, L9, L10, L11, L12, L13, L14, L15, L16, L17] 16 v1 v2 v3 v4 v5 v6, doW L0 L1 v1 v2 v3 v4 v5 v6 0, doW L0 L1 v1 v2 v3 v4 v5 v6 1, doW L0 L1 v1 v2 v3 v4 v5 v6 2, doW L0 L1 v1 v2 v3 v4 v5 v6 3] ∧ [L0, L2, L3, L4, L5, L6, L7, L8, L9, L10, L11, L12, L13, L14, L15, L16, L17] = doB L0 L1 v1 v2 v3 v4 v5 v6 :: (List.range 16).map fun j => doM L0 L1 [L2, L3, L4, L5, L6, L7, L8, L9, L10, L11, L12, L13, L14, L15, L16, L17] 16 v1 v2 v3 v4 v5 v6 j
    rw [range16, F.1, F.2.1, F.2.2.1, F.2.2.1, F.2.2.1, F.2.2.1, F.2.2.2.1, hE]
    simp only [F.2.2.2.2]
    exact ⟨by first | rfl | trivial, by first | rfl | trivial⟩
  · have hE : doE v1 v2 v3 v4 v5 v6 = 10 := by unfold doE; rw [if_pos (.inr c2)]
    have F := do_fail (B := L0) (T := L1) (Ls := [L2, L3, L4, L5, L6, L7, L8, L9, L10, L11, L12, L13, L14, L15, L16, L17]) (K := 16) (show doE v1 v2 v3 v4 v5 v6 ≠ 0 by rw [hE]; first | decide | assumption)
    show [10, 0, 0, 0, 0, 0] = [doR L0 L1 v1 v2 v3 v4 v5 v6, doV L0 L1 [L2, L3, L4, L5, L6, L7, L8, L9, L10, L11, L12, L13, L14, L15, L16, L17] 16 v1 v2 v3 v4 v5 v6, doW L0 L1 v1 v2 v3 v4 v5 v6 0, doW L0 L1 v1 v2 v3 v4 v5 v6 1, doW L0 L1 v1 v2 v3 v4 v5 v6 2, doW L0 L1 v1 v2 v3 v4 v5 v6 3] ∧ [L0, L2, L3, L4, L5, L6, L7, L8, L9, L10, L11, L12, L13, L14, L15, L16, L17] = doB L0 L1 v1 v2 v3 v4 v5 v6 :: (List.range 16).map fun j => doM L0 L1 [L2, L3, L4, L5, L6, L7, L8, L9, L10, L11, L12, L13, L14, L15, L16, L17] 16 v1 v2 v3 v4 v5 v6 j
    rw [range16, F.1, F.2.1, F.2.2.1, F.2.2.1, F.2.2.1, F.2.2.1, F.2.2.2.1, hE]
    simp only [F.2.2.2.2]
    exact ⟨by first | rfl | trivial, by first | rfl | trivial⟩
  · have hk2 := hu.1 c3
    have hE : doE v1 v2 v3 v4 v5 v6 = c := by unfold doE; rw [if_neg (by omega), if_neg (by omega), hc]
    have F := do_fail (B := L0) (T := L1) (Ls := [L2, L3, L4, L5, L6, L7, L8, L9, L10, L11, L12, L13, L14, L15, L16, L17]) (K := 16) (show doE v1 v2 v3 v4 v5 v6 ≠ 0 by rw [hE]; first | decide | assumption)
    show [c, 0, 0, 0, 0, 0] = [doR L0 L1 v1 v2 v3 v4 v5 v6, doV L0 L1 [L2, L3, L4, L5, L6, L7, L8, L9, L10, L11, L12, L13, L14, L15, L16, L17] 16 v1 v2 v3 v4 v5 v6, doW L0 L1 v1 v2 v3 v4 v5 v6 0, doW L0 L1 v1 v2 v3 v4 v5 v6 1, doW L0 L1 v1 v2 v3 v4 v5 v6 2, doW L0 L1 v1 v2 v3 v4 v5 v6 3] ∧ [L0, L2, L3, L4, L5, L6, L7, L8, L9, L10, L11, L12, L13, L14, L15, L16, L17] = doB L0 L1 v1 v2 v3 v4 v5 v6 :: (List.range 16).map fun j => doM L0 L1 [L2, L3, L4, L5, L6, L7, L8, L9, L10, L11, L12, L13, L14, L15, L16, L17] 16 v1 v2 v3 v4 v5 v6 j
    rw [range16, F.1, F.2.1, F.2.2.1, F.2.2.1, F.2.2.1, F.2.2.1, F.2.2.2.1, hE]
    simp only [F.2.2.2.2]
    exact ⟨by first | rfl | trivial, by first | rfl | trivial⟩
  · have hk2 := hu.1 c3
    have ha := user_args hk2.1 hk2.2.1 (hc.symm.trans c4)
    have hE : doE v1 v2 v3 v4 v5 v6 = 0 := by unfold doE; rw [if_neg (by omega), if_neg (by omega), ← hc]; exact c4
    intro pg epg
    have hpg : pg = v3 := by rw [epg, wrapI]; omega
    refine ⟨trivial, fun w0 w1 w2 w3 wok B' hw => ?_⟩
    rw [hpg, hk2.2.2] at hw
    have hB : B' = walkB L0 L1 v1 v3 v2 := by
      have : [B'] = [walkB L0 L1 v1 v3 v2] := hw.2
      simpa using this
    have hw : [w0, w1, w2, w3, wok] = [walkV L0 L1 v1 v3 v2 0, walkV L0 L1 v1 v3 v2 1, walkV L0 L1 v1 v3 v2 2, walkV L0 L1 v1 v3 v2 3, b2i (walkOk L0 L1 v1 v3 v2)] := hw.1
    simp only [List.cons.injEq, and_true] at hw
    obtain ⟨h0, h1, h2, h3, h4⟩ := hw
    intro z ez
    refine ⟨fun c5 => ?_, fun c5 => ?_⟩
    · have hW : walkOk L0 L1 v1 v3 v2 = false := by
        cases e : walkOk L0 L1 v1 v3 v2 with
        | false => rfl
        | true => rw [e] at h4; rw [h4] at ez; exact absurd ez c5
      have F := do_fault (B := L0) (T := L1) (Ls := [L2, L3, L4, L5, L6, L7, L8, L9, L10, L11, L12, L13, L14, L15, L16, L17]) (K := 16) hE hW
      show [7, 0, 0, 0, 0, 0] = [doR L0 L1 v1 v2 v3 v4 v5 v6, doV L0 L1 [L2, L3, L4, L5, L6, L7, L8, L9, L10, L11, L12, L13, L14, L15, L16, L17] 16 v1 v2 v3 v4 v5 v6, doW L0 L1 v1 v2 v3 v4 v5 v6 0, doW L0 L1 v1 v2 v3 v4 v5 v6 1, doW L0 L1 v1 v2 v3 v4 v5 v6 2, doW L0 L1 v1 v2 v3 v4 v5 v6 3] ∧ [B', L2, L3, L4, L5, L6, L7, L8, L9, L10, L11, L12, L13, L14, L15, L16, L17] = doB L0 L1 v1 v2 v3 v4 v5 v6 :: (List.range 16).map fun j => doM L0 L1 [L2, L3, L4, L5, L6, L7, L8, L9, L10, L11, L12, L13, L14, L15, L16, L17] 16 v1 v2 v3 v4 v5 v6 j
      rw [range16, F.1, F.2.1, F.2.2.1, F.2.2.1, F.2.2.1, F.2.2.1, F.2.2.2.1, hB]
      simp only [F.2.2.2.2]
      exact ⟨by first | rfl | trivial, by first | rfl | trivial⟩
    · have hW : walkOk L0 L1 v1 v3 v2 = true := by
        cases e : walkOk L0 L1 v1 v3 v2 with
        | true => rfl
        | false => rw [e] at h4; rw [h4, c5] at ez; cases ez
      have F := do_ok (B := L0) (T := L1) (Ls := [L2, L3, L4, L5, L6, L7, L8, L9, L10, L11, L12, L13, L14, L15, L16, L17]) (K := 16) hE hW
      refine ⟨⟨ha.2, fun j hj => ?_⟩, ?_⟩
      · have := hlen j hj
        rw [show [L2, L3, L4, L5, L6, L7, L8, L9, L10, L11, L12, L13, L14, L15, L16, L17].getD (0 + j) ([] : List Int) = [L0, L1, L2, L3, L4, L5, L6, L7, L8, L9, L10, L11, L12, L13, L14, L15, L16, L17].getD (2 + j) [] by rw [Nat.zero_add, Nat.add_comm 2 j]; rfl]
        exact this
      · intro val T0 T1 T2 T3 T4 T5 T6 T7 T8 T9 T10 T11 T12 T13 T14 T15 ht
        have ht : [val] = [touchV [L2, L3, L4, L5, L6, L7, L8, L9, L10, L11, L12, L13, L14, L15, L16, L17] 16 w2 v2 v4] ∧ [T0, T1, T2, T3, T4, T5, T6, T7, T8, T9, T10, T11, T12, T13, T14, T15] = (List.range 16).map fun j => touchL [L2, L3, L4, L5, L6, L7, L8, L9, L10, L11, L12, L13, L14, L15, L16, L17] 16 w2 v2 v4 v5 v6 j := ht
        rw [h2, range16] at ht
        have hv : val = touchV [L2, L3, L4, L5, L6, L7, L8, L9, L10, L11, L12, L13, L14, L15, L16, L17] 16 (walkV L0 L1 v1 v3 v2 2) v2 v4 := by simpa using ht.1
        show [0, val, w0, w1, w2, w3] = [doR L0 L1 v1 v2 v3 v4 v5 v6, doV L0 L1 [L2, L3, L4, L5, L6, L7, L8, L9, L10, L11, L12, L13, L14, L15, L16, L17] 16 v1 v2 v3 v4 v5 v6, doW L0 L1 v1 v2 v3 v4 v5 v6 0, doW L0 L1 v1 v2 v3 v4 v5 v6 1, doW L0 L1 v1 v2 v3 v4 v5 v6 2, doW L0 L1 v1 v2 v3 v4 v5 v6 3] ∧ [B', T0, T1, T2, T3, T4, T5, T6, T7, T8, T9, T10, T11, T12, T13, T14, T15] = doB L0 L1 v1 v2 v3 v4 v5 v6 :: (List.range 16).map fun j => doM L0 L1 [L2, L3, L4, L5, L6, L7, L8, L9, L10, L11, L12, L13, L14, L15, L16, L17] 16 v1 v2 v3 v4 v5 v6 j
        rw [range16, F.1, F.2.1, F.2.2.1, F.2.2.1, F.2.2.1, F.2.2.1, F.2.2.2.1, hB, hv, h0, h1, h2, h3]
        simp only [F.2.2.2.2]
        exact ⟨by first | rfl | trivial, by rw [ht.2]⟩
  · have hE : doE v1 v2 v3 v4 v5 v6 = 1 := by unfold doE; rw [if_neg (by omega), if_pos (hu.2 (by omega))]
    have F := do_fail (B := L0) (T := L1) (Ls := [L2, L3, L4, L5, L6, L7, L8, L9, L10, L11, L12, L13, L14, L15, L16, L17]) (K := 16) (show doE v1 v2 v3 v4 v5 v6 ≠ 0 by rw [hE]; first | decide | assumption)
    show [1, 0, 0, 0, 0, 0] = [doR L0 L1 v1 v2 v3 v4 v5 v6, doV L0 L1 [L2, L3, L4, L5, L6, L7, L8, L9, L10, L11, L12, L13, L14, L15, L16, L17] 16 v1 v2 v3 v4 v5 v6, doW L0 L1 v1 v2 v3 v4 v5 v6 0, doW L0 L1 v1 v2 v3 v4 v5 v6 1, doW L0 L1 v1 v2 v3 v4 v5 v6 2, doW L0 L1 v1 v2 v3 v4 v5 v6 3] ∧ [L0, L2, L3, L4, L5, L6, L7, L8, L9, L10, L11, L12, L13, L14, L15, L16, L17] = doB L0 L1 v1 v2 v3 v4 v5 v6 :: (List.range 16).map fun j => doM L0 L1 [L2, L3, L4, L5, L6, L7, L8, L9, L10, L11, L12, L13, L14, L15, L16, L17] 16 v1 v2 v3 v4 v5 v6 j
    rw [range16, F.1, F.2.1, F.2.2.1, F.2.2.1, F.2.2.1, F.2.2.1, F.2.2.2.1, hE]
    simp only [F.2.2.2.2]
    exact ⟨by first | rfl | trivial, by first | rfl | trivial⟩)
end Go.Proofs.YtbpilohnhhbbpaaGreatDoor
/- Contracts: the document's buffer: new, an entry's place. -/
set_option linter.unusedVariables false
set_option linter.unusedSimpArgs false
open Go Go.Sx
namespace Go.Proofs.YtbpilohnhhbbpaaGreatDoor
set_option maxRecDepth 100000
noncomputable def rNew_t : Tree := .letL (.lit [.c (-1), .c (0), .c (0), .c (0), .c (-1), .c (0), .c (0), .c (0), .c (-1), .c (0), .c (0), .c (0), .c (-1), .c (0), .c (0), .c (0), .c (-1), .c (0), .c (0), .c (0), .c (-1), .c (0), .c (0), .c (0), .c (-1), .c (0), .c (0), .c (0), .c (-1), .c (0), .c (0), .c (0), .c (0), .c (0), .c (0), .c (0), .c (0), .c (0), .c (0), .c (0), .c (0)]) (.done [] [0])
theorem rNew_tree : (L2.rNew).exe Tryz.prog (L2.cfg Tryz.prog) [] 20 200 = rNew_t := by kernel_rfl
theorem rNew_vc (Q : List Int → List (List Int) → Prop) : rNew_t.dn ⟨Q, []⟩ 0 [] 0 [] = (∀ L0 : List Int, L0 = [((-1) : Int), (0 : Int), (0 : Int), (0 : Int), ((-1) : Int), (0 : Int), (0 : Int), (0 : Int), ((-1) : Int), (0 : Int), (0 : Int), (0 : Int), ((-1) : Int), (0 : Int), (0 : Int), (0 : Int), ((-1) : Int), (0 : Int), (0 : Int), (0 : Int), ((-1) : Int), (0 : Int), (0 : Int), (0 : Int), ((-1) : Int), (0 : Int), (0 : Int), (0 : Int), ((-1) : Int), (0 : Int), (0 : Int), (0 : Int), (0 : Int), (0 : Int), (0 : Int), (0 : Int), (0 : Int), (0 : Int), (0 : Int), (0 : Int), (0 : Int)] → Q [] [L0]) := by kernel_rfl
set_option maxHeartbeats 4000000 in
theorem rNew_holds : (L2.rNew).Holds Tryz.prog L2.ro := FSpec.holdsV (cfg := L2.cfg Tryz.prog) [] 20 200 cfg_ok mixed (t := rNew_t) rNew_tree (by
  show _ → _
  intro   hp hr hl
  replace hr : True := hr
  replace hl : True := hl
  show rNew_t.dn ⟨_, []⟩ 0 [] 0 []
  rw [rNew_vc]
  intro L0 e0
  subst e0
  exact ⟨rfl, rfl⟩)
noncomputable def rFind0_t : Tree := .loop [.c (0)] [] (.letI (.cmp .lss (.v 2) (.c 8)) (.ite (.v 3) (.letI (.mul (.v 2) (.c 4)) (.letI (.get 0 (.v 4)) (.letI (.cmp .leq (.c 0) (.v 5)) (.ite (.v 6) (.letI (.cmp .eql (.v 0) (.v 5)) (.ite (.v 7) (.letI (.add (.v 4) (.c 1)) (.letI (.get 0 (.v 8)) (.letI (.cmp .eql (.v 1) (.v 9)) (.ite (.v 10) (.exit (.done [.v 2] [])) (.letI (.add (.v 2) (.c 1)) (.again [.v 11] [])))))) (.letI (.add (.v 2) (.c 1)) (.again [.v 8] [])))) (.letI (.add (.v 2) (.c 1)) (.again [.v 7] [])))))) (.exit (.done [.c (-1)] []))))
theorem rFind0_tree : (L2.rFind0).exe Tryz.prog (L2.cfg Tryz.prog) [{ f := L2.f_messuageref2_Buffer_find, reg := 2, ints := [(8, 0, 8)] }] 20 200 = rFind0_t := by kernel_rfl
theorem rFind0_vc (Q : List Int → List (List Int) → Prop) (v0 v1 : Int) (L0 : List Int) : rFind0_t.dn ⟨Q, []⟩ 2 [v1, v0] 1 [L0] = (∃ (I0 : List Int → List (List Int) → Prop) (μ0 : List Int → List (List Int) → Nat), I0 [(0 : Int)] [] ∧
(∀ v2 : Int, I0 [v2] [] →
 ((v2 < (8 : Int)) → ∀ v4 : Int, v4 = v2 * (4 : Int) → ∀ v5 : Int, v5 = (L0).getD (v4).toNat 0 → (((0 : Int) ≤ v5) → ((v0 = v5) → ∀ v8 : Int, v8 = v4 + (1 : Int) → ∀ v9 : Int, v9 = (L0).getD (v8).toNat 0 → ((v1 = v9) → Q [v2] []) ∧
((v1 ≠ v9) → ∀ v11 : Int, v11 = v2 + (1 : Int) → (I0 [v11] [] ∧ μ0 [v11] [] < μ0 [v2] []))) ∧
((v0 ≠ v5) → ∀ v8 : Int, v8 = v2 + (1 : Int) → (I0 [v8] [] ∧ μ0 [v8] [] < μ0 [v2] []))) ∧
((v5 < (0 : Int)) → ∀ v7 : Int, v7 = v2 + (1 : Int) → (I0 [v7] [] ∧ μ0 [v7] [] < μ0 [v2] []))) ∧
(((8 : Int) ≤ v2) → Q [((-1) : Int)] []))) := by kernel_rfl
set_option maxHeartbeats 4000000 in
theorem rFind0_holds : (L2.rFind0).Holds Tryz.prog L2.ro := FSpec.holdsV (cfg := L2.cfg Tryz.prog) [{ f := L2.f_messuageref2_Buffer_find, reg := 2, ints := [(8, 0, 8)] }] 20 200 cfg_ok mixed (t := rFind0_t) rFind0_tree (by
  show ∀ (v0 v1 : Int) (L0 : List Int), _
  intro v0 v1 L0 hp hr hl
  replace hr : (((-9223372036854775808) : Int) ≤ v0 ∧ v0 ≤ ((9223372036854775807) : Int)) ∧ (((-9223372036854775808) : Int) ≤ v1 ∧ v1 ≤ ((9223372036854775807) : Int)) ∧ True := hr
  replace hl : (∀ x ∈ L0, (((-9223372036854775808) : Int) ≤ x ∧ x ≤ ((9223372036854775807) : Int))) ∧ True := hl
  show rFind0_t.dn ⟨_, []⟩ 2 [v1, v0] 1 [L0]
  rw [rFind0_vc]
  refine ⟨fun xs _ => match xs with | [i] => 0 ≤ i ∧ i ≤ 8 ∧ rfB L0 v0 v1 i.toNat = -1 | _ => False, fun xs _ => match xs with | i :: _ => (8 - i).toNat | _ => 0, ?_, ?_⟩ <;> dsimp only
  · exact ⟨by omega, by omega, rfl⟩
  · intro v2 hI
    obtain ⟨i0, i8, hn⟩ := hI
    obtain ⟨k, rfl⟩ : ∃ k : Nat, v2 = k := ⟨v2.toNat, by omega⟩
    rw [Int.toNat_natCast] at hn
    have hs := rfB_succ L0 v0 v1 k
    rw [if_neg (fun h => h hn)] at hs
    have hk1 : ((k : Int) + 1).toNat = k + 1 := by omega
    have g0 : ∀ x : Int, x = (L0).getD ((k : Int) * 4).toNat 0 → x = gI L0 (k * 4) := fun x h => h
    refine ⟨fun c1 => ?_, fun c1 => ?_⟩
    · intro v4 e4 v5 e5
      have g : v5 = gI L0 (k * 4) := by rw [e5, e4]; rfl
      refine ⟨fun c2 => ⟨fun c3 => ?_, fun c3 => ?_⟩, fun c2 => ?_⟩
      · intro v8 e8 v9 e9
        have g' : v9 = gI L0 (k * 4 + 1) := by rw [e9, e8, e4]; rfl
        refine ⟨fun c4 => ?_, fun c4 => ?_⟩
        · have hh : hitR L0 v0 v1 k = true := by simp [hitR, ← g, ← g', c2, c3, c4]
          rw [if_pos hh] at hs
          have h8 := rfB_stay (M := L0) (e := v0) (p := v1) (k := k + 1) (by omega) (n := 8) (by omega)
          show [(k : Int)] = [rfB L0 v0 v1 8]
          rw [h8, hs]
        · have hh : hitR L0 v0 v1 k = false := by
            simp only [hitR, ← g', Bool.and_eq_false_iff, decide_eq_false_iff_not]
            exact .inr (.inr (fun h => c4 h.symm))
          rw [hh] at hs
          intro v11 e11
          exact ⟨⟨by omega, by omega, by rw [e11, hk1, hs]; rfl⟩, by omega⟩
      · have hh : hitR L0 v0 v1 k = false := by
          simp only [hitR, ← g, Bool.and_eq_false_iff, decide_eq_false_iff_not]
          exact .inr (.inl (fun h => c3 h.symm))
        rw [hh] at hs
        intro v11 e11
        exact ⟨⟨by omega, by omega, by rw [e11, hk1, hs]; rfl⟩, by omega⟩
      · have hh : hitR L0 v0 v1 k = false := by
          simp only [hitR, ← g, Bool.and_eq_false_iff, decide_eq_false_iff_not]
          exact .inl (by omega)
        rw [hh] at hs
        intro v11 e11
        exact ⟨⟨by omega, by omega, by rw [e11, hk1, hs]; rfl⟩, by omega⟩
    · have hk : k = 8 := by omega
      subst hk
      show [(-1 : Int)] = [rfB L0 v0 v1 8]
      rw [hn])
end Go.Proofs.YtbpilohnhhbbpaaGreatDoor
/- Contracts: the document's buffer. -/
set_option linter.unusedVariables false
set_option linter.unusedSimpArgs false
open Go Go.Sx
namespace Go.Proofs.YtbpilohnhhbbpaaGreatDoor
set_option maxRecDepth 100000
theorem ra_ok : (withS (L2.cfg Tryz.prog) [L2.rFind0]).Ok Tryz.prog := withS_ok cfg_ok ⟨rFind0_holds, trivial⟩
noncomputable def rFind_t : Tree := .call 103 (Go.Sx.L2.rFind0).rel [.v 0, .v 1] [0] 1 0 (.letI (.cmp .leq (.c 0) (.v 2)) (.ite (.v 3) (.letI (.mul (.v 2) (.c 4)) (.letI (.get 0 (.v 4)) (.letI (.add (.v 4) (.c 1)) (.letI (.get 0 (.v 6)) (.letI (.add (.v 4) (.c 2)) (.letI (.get 0 (.v 8)) (.letI (.add (.v 4) (.c 3)) (.letI (.get 0 (.v 10)) (.done [.v 5, .v 7, .v 9, .v 11, .c (1)] []))))))))) (.done [.c (0), .c (0), .c (0), .c (0), .c (0)] [])))
theorem rFind_tree : (L2.rFind).exe Tryz.prog (withS (L2.cfg Tryz.prog) [L2.rFind0]) [] 20 200 = rFind_t := by kernel_rfl
theorem rFind_vc (Q : List Int → List (List Int) → Prop) (v0 v1 : Int) (L0 : List Int) : rFind_t.dn ⟨Q, []⟩ 2 [v1, v0] 1 [L0] = ((Go.Sx.L2.rFind0).rel.pre [v0, v1] [L0] ∧
(∀ v2 : Int, (Go.Sx.L2.rFind0).rel.post [v0, v1] [L0] [v2] [] → (((0 : Int) ≤ v2) → ∀ v4 : Int, v4 = v2 * (4 : Int) → ∀ v5 : Int, v5 = (L0).getD (v4).toNat 0 → ∀ v6 : Int, v6 = v4 + (1 : Int) → ∀ v7 : Int, v7 = (L0).getD (v6).toNat 0 → ∀ v8 : Int, v8 = v4 + (2 : Int) → ∀ v9 : Int, v9 = (L0).getD (v8).toNat 0 → ∀ v10 : Int, v10 = v4 + (3 : Int) → ∀ v11 : Int, v11 = (L0).getD (v10).toNat 0 → Q [v5, v7, v9, v11, (1 : Int)] []) ∧
((v2 < (0 : Int)) → Q [(0 : Int), (0 : Int), (0 : Int), (0 : Int), (0 : Int)] []))) := by kernel_rfl
set_option maxHeartbeats 4000000 in
theorem rFind_holds : (L2.rFind).Holds Tryz.prog L2.ro := FSpec.holdsV (cfg := withS (L2.cfg Tryz.prog) [L2.rFind0]) [] 20 200 ra_ok mixed (t := rFind_t) rFind_tree (by
  show ∀ (v0 v1 : Int) (L0 : List Int), _
  intro v0 v1 L0 hp hr hl
  replace hr : (((-9223372036854775808) : Int) ≤ v0 ∧ v0 ≤ ((9223372036854775807) : Int)) ∧ (((-9223372036854775808) : Int) ≤ v1 ∧ v1 ≤ ((9223372036854775807) : Int)) ∧ True := hr
  replace hl : (∀ x ∈ L0, (((-9223372036854775808) : Int) ≤ x ∧ x ≤ ((9223372036854775807) : Int))) ∧ True := hl
  show rFind_t.dn ⟨_, []⟩ 2 [v1, v0] 1 [L0]
  rw [rFind_vc]
  have hrf := rfB_range L0 v0 v1 8
  simp only [fnSpec_post, fnSpec_pre, true_and, List.cons.injEq, and_true, List.getD_cons_zero, List.getD_cons_succ, and_imp, forall_eq, b2i_zero, b2i_eq, ne_eq, Bool.not_eq_false, Bool.not_eq_true', Bool.not_eq_false', decide_eq_true_eq, decide_eq_false_iff_not, Int.not_lt, Int.not_le]
  repeat' first | refine And.intro ?_ ?_ | intro _
  all_goals clear hr hl hp
  all_goals first | omega | skip
  all_goals grind [findR, gI, b2i])
noncomputable def rFill_t : Tree := .letI (.cmp .lss (.v 0) (.c 0)) (.ite (.v 4) (.done [.c (0)] [0]) (.letI (.cmp .leq (.c 4) (.v 0)) (.ite (.v 5) (.done [.c (0)] [0]) (.letI (.cmp .lss (.v 1) (.c 0)) (.ite (.v 6) (.done [.c (0)] [0]) (.letI (.cmp .leq (.c 8) (.v 1)) (.ite (.v 7) (.done [.c (0)] [0]) (.letI (.cmp .lss (.v 2) (.c 0)) (.ite (.v 8) (.done [.c (0)] [0]) (.letI (.cmp .leq (.c 16) (.v 2)) (.ite (.v 9) (.done [.c (0)] [0]) (.letI (.cmp .leq (.c 1) (.v 3)) (.ite (.v 10) (.letI (.cmp .leq (.v 3) (.c 3)) (.letI (.not (.v 11)) (.ite (.v 12) (.done [.c (0)] [0]) (.call 103 (Go.Sx.L2.rFind0).rel [.v 0, .v 1] [0] 1 0 (.letI (.rem (.v 1) (.c 4)) (.letI (.mul (.v 14) (.c 2)) (.letI (.add (.v 15) (.c 2)) (.letI (.cmp .lss (.v 15) (.v 16)) (.ite (.v 17) (.letI (.cmp .lss (.v 13) (.c 0)) (.ite (.v 18) (.letI (.mul (.v 15) (.c 4)) (.letI (.get 0 (.v 19)) (.letI (.cmp .lss (.v 20) (.c 0)) (.ite (.v 21) (.letI (.add (.v 15) (.c 1)) (.letI (.cmp .lss (.v 22) (.v 16)) (.ite (.v 23) (.letI (.get 0 (.c 40)) (.letI (.add (.v 24) (.c 1)) (.letI (.wr .i64 (.v 25)) (.letL (.set 0 (.c 40) (.v 26)) (.letI (.get 1 (.c 40)) (.letL (.set 1 (.v 19) (.v 0)) (.letI (.add (.v 19) (.c 1)) (.letL (.set 2 (.v 28) (.v 1)) (.letI (.add (.v 19) (.c 2)) (.letL (.set 3 (.v 29) (.v 2)) (.letI (.add (.v 19) (.c 3)) (.letL (.set 4 (.v 30) (.v 3)) (.letI (.add (.c 32) (.v 15)) (.letL (.set 5 (.v 31) (.v 27)) (.done [.c (1)] [6]))))))))))))))) (.letI (.get 0 (.c 40)) (.letI (.add (.v 24) (.c 1)) (.letI (.wr .i64 (.v 25)) (.letL (.set 0 (.c 40) (.v 26)) (.letI (.get 1 (.c 40)) (.letL (.set 1 (.v 19) (.v 0)) (.letI (.add (.v 19) (.c 1)) (.letL (.set 2 (.v 28) (.v 1)) (.letI (.add (.v 19) (.c 2)) (.letL (.set 3 (.v 29) (.v 2)) (.letI (.add (.v 19) (.c 3)) (.letL (.set 4 (.v 30) (.v 3)) (.letI (.add (.c 32) (.v 15)) (.letL (.set 5 (.v 31) (.v 27)) (.done [.c (1)] [6])))))))))))))))))) (.letI (.add (.v 15) (.c 1)) (.letI (.cmp .lss (.v 22) (.v 16)) (.ite (.v 23) (.letI (.mul (.v 22) (.c 4)) (.letI (.get 0 (.v 24)) (.letI (.cmp .lss (.v 25) (.c 0)) (.ite (.v 26) (.letI (.add (.v 22) (.c 1)) (.letI (.cmp .lss (.v 27) (.v 16)) (.ite (.v 28) (.letI (.get 0 (.c 40)) (.letI (.add (.v 29) (.c 1)) (.letI (.wr .i64 (.v 30)) (.letL (.set 0 (.c 40) (.v 31)) (.letI (.get 1 (.c 40)) (.letL (.set 1 (.v 24) (.v 0)) (.letI (.add (.v 24) (.c 1)) (.letL (.set 2 (.v 33) (.v 1)) (.letI (.add (.v 24) (.c 2)) (.letL (.set 3 (.v 34) (.v 2)) (.letI (.add (.v 24) (.c 3)) (.letL (.set 4 (.v 35) (.v 3)) (.letI (.add (.c 32) (.v 22)) (.letL (.set 5 (.v 36) (.v 32)) (.done [.c (1)] [6]))))))))))))))) (.letI (.get 0 (.c 40)) (.letI (.add (.v 29) (.c 1)) (.letI (.wr .i64 (.v 30)) (.letL (.set 0 (.c 40) (.v 31)) (.letI (.get 1 (.c 40)) (.letL (.set 1 (.v 24) (.v 0)) (.letI (.add (.v 24) (.c 1)) (.letL (.set 2 (.v 33) (.v 1)) (.letI (.add (.v 24) (.c 2)) (.letL (.set 3 (.v 34) (.v 2)) (.letI (.add (.v 24) (.c 3)) (.letL (.set 4 (.v 35) (.v 3)) (.letI (.add (.c 32) (.v 22)) (.letL (.set 5 (.v 36) (.v 32)) (.done [.c (1)] [6])))))))))))))))))) (.letI (.add (.v 22) (.c 1)) (.letI (.cmp .lss (.v 27) (.v 16)) (.ite (.v 28) (.letI (.mul (.v 27) (.c 4)) (.letI (.get 0 (.v 29)) (.letI (.cmp .lss (.v 30) (.c 0)) (.ite (.v 31) (.letI (.add (.v 27) (.c 1)) (.fail 164)) (.letI (.add (.v 27) (.c 1)) (.fail 164)))))) (.letI (.add (.c 32) (.v 22)) (.letI (.get 0 (.v 29)) (.letI (.add (.c 32) (.v 15)) (.letI (.get 0 (.v 31)) (.letI (.cmp .lss (.v 30) (.v 32)) (.ite (.v 33) (.letI (.get 0 (.c 40)) (.letI (.add (.v 34) (.c 1)) (.letI (.wr .i64 (.v 35)) (.letL (.set 0 (.c 40) (.v 36)) (.letI (.get 1 (.c 40)) (.letL (.set 1 (.v 24) (.v 0)) (.letI (.add (.v 24) (.c 1)) (.letL (.set 2 (.v 38) (.v 1)) (.letI (.add (.v 24) (.c 2)) (.letL (.set 3 (.v 39) (.v 2)) (.letI (.add (.v 24) (.c 3)) (.letL (.set 4 (.v 40) (.v 3)) (.letL (.set 5 (.v 29) (.v 37)) (.done [.c (1)] [6])))))))))))))) (.letI (.get 0 (.c 40)) (.letI (.add (.v 34) (.c 1)) (.letI (.wr .i64 (.v 35)) (.letL (.set 0 (.c 40) (.v 36)) (.letI (.get 1 (.c 40)) (.letL (.set 1 (.v 19) (.v 0)) (.letI (.add (.v 19) (.c 1)) (.letL (.set 2 (.v 38) (.v 1)) (.letI (.add (.v 19) (.c 2)) (.letL (.set 3 (.v 39) (.v 2)) (.letI (.add (.v 19) (.c 3)) (.letL (.set 4 (.v 40) (.v 3)) (.letL (.set 5 (.v 31) (.v 37)) (.done [.c (1)] [6]))))))))))))))))))))))))))) (.letI (.add (.c 32) (.v 22)) (.letI (.get 0 (.v 24)) (.letI (.add (.c 32) (.v 15)) (.letI (.get 0 (.v 26)) (.letI (.cmp .lss (.v 25) (.v 27)) (.ite (.v 28) (.letI (.get 0 (.c 40)) (.letI (.add (.v 29) (.c 1)) (.letI (.wr .i64 (.v 30)) (.letL (.set 0 (.c 40) (.v 31)) (.letI (.get 1 (.c 40)) (.letI (.mul (.v 22) (.c 4)) (.letL (.set 1 (.v 33) (.v 0)) (.letI (.add (.v 33) (.c 1)) (.letL (.set 2 (.v 34) (.v 1)) (.letI (.add (.v 33) (.c 2)) (.letL (.set 3 (.v 35) (.v 2)) (.letI (.add (.v 33) (.c 3)) (.letL (.set 4 (.v 36) (.v 3)) (.letL (.set 5 (.v 24) (.v 32)) (.done [.c (1)] [6]))))))))))))))) (.letI (.get 0 (.c 40)) (.letI (.add (.v 29) (.c 1)) (.letI (.wr .i64 (.v 30)) (.letL (.set 0 (.c 40) (.v 31)) (.letI (.get 1 (.c 40)) (.letL (.set 1 (.v 19) (.v 0)) (.letI (.add (.v 19) (.c 1)) (.letL (.set 2 (.v 33) (.v 1)) (.letI (.add (.v 19) (.c 2)) (.letL (.set 3 (.v 34) (.v 2)) (.letI (.add (.v 19) (.c 3)) (.letL (.set 4 (.v 35) (.v 3)) (.letL (.set 5 (.v 26) (.v 32)) (.done [.c (1)] [6]))))))))))))))))))))))))))) (.letI (.get 0 (.c 40)) (.letI (.add (.v 19) (.c 1)) (.letI (.wr .i64 (.v 20)) (.letL (.set 0 (.c 40) (.v 21)) (.letI (.get 1 (.c 40)) (.letI (.mul (.v 13) (.c 4)) (.letL (.set 1 (.v 23) (.v 0)) (.letI (.add (.v 23) (.c 1)) (.letL (.set 2 (.v 24) (.v 1)) (.letI (.add (.v 23) (.c 2)) (.letL (.set 3 (.v 25) (.v 2)) (.letI (.add (.v 23) (.c 3)) (.letL (.set 4 (.v 26) (.v 3)) (.letI (.add (.c 32) (.v 13)) (.letL (.set 5 (.v 27) (.v 22)) (.done [.c (1)] [6])))))))))))))))))) (.letI (.cmp .lss (.v 13) (.c 0)) (.ite (.v 18) (.letI (.add (.v 15) (.c 1)) (.letI (.add (.c 32) (.v 19)) (.letI (.get 0 (.v 20)) (.letI (.add (.c 32) (.v 15)) (.letI (.get 0 (.v 22)) (.letI (.cmp .lss (.v 21) (.v 23)) (.ite (.v 24) (.letI (.get 0 (.c 40)) (.letI (.add (.v 25) (.c 1)) (.letI (.wr .i64 (.v 26)) (.letL (.set 0 (.c 40) (.v 27)) (.letI (.get 1 (.c 40)) (.letI (.mul (.v 19) (.c 4)) (.letL (.set 1 (.v 29) (.v 0)) (.letI (.add (.v 29) (.c 1)) (.letL (.set 2 (.v 30) (.v 1)) (.letI (.add (.v 29) (.c 2)) (.letL (.set 3 (.v 31) (.v 2)) (.letI (.add (.v 29) (.c 3)) (.letL (.set 4 (.v 32) (.v 3)) (.letL (.set 5 (.v 20) (.v 28)) (.done [.c (1)] [6]))))))))))))))) (.letI (.get 0 (.c 40)) (.letI (.add (.v 25) (.c 1)) (.letI (.wr .i64 (.v 26)) (.letL (.set 0 (.c 40) (.v 27)) (.letI (.get 1 (.c 40)) (.letI (.mul (.v 15) (.c 4)) (.letL (.set 1 (.v 29) (.v 0)) (.letI (.add (.v 29) (.c 1)) (.letL (.set 2 (.v 30) (.v 1)) (.letI (.add (.v 29) (.c 2)) (.letL (.set 3 (.v 31) (.v 2)) (.letI (.add (.v 29) (.c 3)) (.letL (.set 4 (.v 32) (.v 3)) (.letL (.set 5 (.v 22) (.v 28)) (.done [.c (1)] [6])))))))))))))))))))))) (.letI (.get 0 (.c 40)) (.letI (.add (.v 19) (.c 1)) (.letI (.wr .i64 (.v 20)) (.letL (.set 0 (.c 40) (.v 21)) (.letI (.get 1 (.c 40)) (.letI (.mul (.v 13) (.c 4)) (.letL (.set 1 (.v 23) (.v 0)) (.letI (.add (.v 23) (.c 1)) (.letL (.set 2 (.v 24) (.v 1)) (.letI (.add (.v 23) (.c 2)) (.letL (.set 3 (.v 25) (.v 2)) (.letI (.add (.v 23) (.c 3)) (.letL (.set 4 (.v 26) (.v 3)) (.letI (.add (.c 32) (.v 13)) (.letL (.set 5 (.v 27) (.v 22)) (.done [.c (1)] [6]))))))))))))))))))))))))))) (.done [.c (0)] [0]))))))))))))))
theorem rFill_tree : (L2.rFill).exe Tryz.prog (withS (L2.cfg Tryz.prog) [L2.rFind0]) [] 3 200 = rFill_t := by kernel_rfl
theorem rFill_vc (Q : List Int → List (List Int) → Prop) (v0 v1 v2 v3 : Int) (L0 : List Int) : rFill_t.dn ⟨Q, []⟩ 4 [v3, v2, v1, v0] 1 [L0] = (((v0 < (0 : Int)) → Q [(0 : Int)] [L0]) ∧
(((0 : Int) ≤ v0) → (((4 : Int) ≤ v0) → Q [(0 : Int)] [L0]) ∧
((v0 < (4 : Int)) → ((v1 < (0 : Int)) → Q [(0 : Int)] [L0]) ∧
(((0 : Int) ≤ v1) → (((8 : Int) ≤ v1) → Q [(0 : Int)] [L0]) ∧
((v1 < (8 : Int)) → ((v2 < (0 : Int)) → Q [(0 : Int)] [L0]) ∧
(((0 : Int) ≤ v2) → (((16 : Int) ≤ v2) → Q [(0 : Int)] [L0]) ∧
((v2 < (16 : Int)) → (((1 : Int) ≤ v3) → ∀ v11 : Int, v11 = b2i (decide (v3 ≤ (3 : Int))) → ∀ v12 : Int, v12 = b2i (v11 == 0) → (v12 ≠ 0 → Q [(0 : Int)] [L0]) ∧
(v12 = 0 → (Go.Sx.L2.rFind0).rel.pre [v0, v1] [L0] ∧
(∀ v13 : Int, (Go.Sx.L2.rFind0).rel.post [v0, v1] [L0] [v13] [] → ∀ v14 : Int, v14 = (v1).tmod (4 : Int) → ∀ v15 : Int, v15 = v14 * (2 : Int) → ∀ v16 : Int, v16 = v15 + (2 : Int) → ((v15 < v16) → ((v13 < (0 : Int)) → ∀ v19 : Int, v19 = v15 * (4 : Int) → ∀ v20 : Int, v20 = (L0).getD (v19).toNat 0 → ((v20 < (0 : Int)) → ∀ v22 : Int, v22 = v15 + (1 : Int) → ((v22 < v16) → ∀ v24 : Int, v24 = (L0).getD ((40 : Int)).toNat 0 → ∀ v25 : Int, v25 = v24 + (1 : Int) → ∀ v26 : Int, v26 = IntKind.wrap .i64 v25 → ∀ L1 : List Int, L1 = (L0).set ((40 : Int)).toNat v26 → ∀ v27 : Int, v27 = (L1).getD ((40 : Int)).toNat 0 → ∀ L2 : List Int, L2 = (L1).set (v19).toNat v0 → ∀ v28 : Int, v28 = v19 + (1 : Int) → ∀ L3 : List Int, L3 = (L2).set (v28).toNat v1 → ∀ v29 : Int, v29 = v19 + (2 : Int) → ∀ L4 : List Int, L4 = (L3).set (v29).toNat v2 → ∀ v30 : Int, v30 = v19 + (3 : Int) → ∀ L5 : List Int, L5 = (L4).set (v30).toNat v3 → ∀ v31 : Int, v31 = (32 : Int) + v15 → ∀ L6 : List Int, L6 = (L5).set (v31).toNat v27 → Q [(1 : Int)] [L6]) ∧
((v16 ≤ v22) → ∀ v24 : Int, v24 = (L0).getD ((40 : Int)).toNat 0 → ∀ v25 : Int, v25 = v24 + (1 : Int) → ∀ v26 : Int, v26 = IntKind.wrap .i64 v25 → ∀ L1 : List Int, L1 = (L0).set ((40 : Int)).toNat v26 → ∀ v27 : Int, v27 = (L1).getD ((40 : Int)).toNat 0 → ∀ L2 : List Int, L2 = (L1).set (v19).toNat v0 → ∀ v28 : Int, v28 = v19 + (1 : Int) → ∀ L3 : List Int, L3 = (L2).set (v28).toNat v1 → ∀ v29 : Int, v29 = v19 + (2 : Int) → ∀ L4 : List Int, L4 = (L3).set (v29).toNat v2 → ∀ v30 : Int, v30 = v19 + (3 : Int) → ∀ L5 : List Int, L5 = (L4).set (v30).toNat v3 → ∀ v31 : Int, v31 = (32 : Int) + v15 → ∀ L6 : List Int, L6 = (L5).set (v31).toNat v27 → Q [(1 : Int)] [L6])) ∧
(((0 : Int) ≤ v20) → ∀ v22 : Int, v22 = v15 + (1 : Int) → ((v22 < v16) → ∀ v24 : Int, v24 = v22 * (4 : Int) → ∀ v25 : Int, v25 = (L0).getD (v24).toNat 0 → ((v25 < (0 : Int)) → ∀ v27 : Int, v27 = v22 + (1 : Int) → ((v27 < v16) → ∀ v29 : Int, v29 = (L0).getD ((40 : Int)).toNat 0 → ∀ v30 : Int, v30 = v29 + (1 : Int) → ∀ v31 : Int, v31 = IntKind.wrap .i64 v30 → ∀ L1 : List Int, L1 = (L0).set ((40 : Int)).toNat v31 → ∀ v32 : Int, v32 = (L1).getD ((40 : Int)).toNat 0 → ∀ L2 : List Int, L2 = (L1).set (v24).toNat v0 → ∀ v33 : Int, v33 = v24 + (1 : Int) → ∀ L3 : List Int, L3 = (L2).set (v33).toNat v1 → ∀ v34 : Int, v34 = v24 + (2 : Int) → ∀ L4 : List Int, L4 = (L3).set (v34).toNat v2 → ∀ v35 : Int, v35 = v24 + (3 : Int) → ∀ L5 : List Int, L5 = (L4).set (v35).toNat v3 → ∀ v36 : Int, v36 = (32 : Int) + v22 → ∀ L6 : List Int, L6 = (L5).set (v36).toNat v32 → Q [(1 : Int)] [L6]) ∧
((v16 ≤ v27) → ∀ v29 : Int, v29 = (L0).getD ((40 : Int)).toNat 0 → ∀ v30 : Int, v30 = v29 + (1 : Int) → ∀ v31 : Int, v31 = IntKind.wrap .i64 v30 → ∀ L1 : List Int, L1 = (L0).set ((40 : Int)).toNat v31 → ∀ v32 : Int, v32 = (L1).getD ((40 : Int)).toNat 0 → ∀ L2 : List Int, L2 = (L1).set (v24).toNat v0 → ∀ v33 : Int, v33 = v24 + (1 : Int) → ∀ L3 : List Int, L3 = (L2).set (v33).toNat v1 → ∀ v34 : Int, v34 = v24 + (2 : Int) → ∀ L4 : List Int, L4 = (L3).set (v34).toNat v2 → ∀ v35 : Int, v35 = v24 + (3 : Int) → ∀ L5 : List Int, L5 = (L4).set (v35).toNat v3 → ∀ v36 : Int, v36 = (32 : Int) + v22 → ∀ L6 : List Int, L6 = (L5).set (v36).toNat v32 → Q [(1 : Int)] [L6])) ∧
(((0 : Int) ≤ v25) → ∀ v27 : Int, v27 = v22 + (1 : Int) → ((v27 < v16) → ∀ v29 : Int, v29 = v27 * (4 : Int) → ∀ v30 : Int, v30 = (L0).getD (v29).toNat 0 → ((v30 < (0 : Int)) → ∀ v32 : Int, v32 = v27 + (1 : Int) → False) ∧
(((0 : Int) ≤ v30) → ∀ v32 : Int, v32 = v27 + (1 : Int) → False)) ∧
((v16 ≤ v27) → ∀ v29 : Int, v29 = (32 : Int) + v22 → ∀ v30 : Int, v30 = (L0).getD (v29).toNat 0 → ∀ v31 : Int, v31 = (32 : Int) + v15 → ∀ v32 : Int, v32 = (L0).getD (v31).toNat 0 → ((v30 < v32) → ∀ v34 : Int, v34 = (L0).getD ((40 : Int)).toNat 0 → ∀ v35 : Int, v35 = v34 + (1 : Int) → ∀ v36 : Int, v36 = IntKind.wrap .i64 v35 → ∀ L1 : List Int, L1 = (L0).set ((40 : Int)).toNat v36 → ∀ v37 : Int, v37 = (L1).getD ((40 : Int)).toNat 0 → ∀ L2 : List Int, L2 = (L1).set (v24).toNat v0 → ∀ v38 : Int, v38 = v24 + (1 : Int) → ∀ L3 : List Int, L3 = (L2).set (v38).toNat v1 → ∀ v39 : Int, v39 = v24 + (2 : Int) → ∀ L4 : List Int, L4 = (L3).set (v39).toNat v2 → ∀ v40 : Int, v40 = v24 + (3 : Int) → ∀ L5 : List Int, L5 = (L4).set (v40).toNat v3 → ∀ L6 : List Int, L6 = (L5).set (v29).toNat v37 → Q [(1 : Int)] [L6]) ∧
((v32 ≤ v30) → ∀ v34 : Int, v34 = (L0).getD ((40 : Int)).toNat 0 → ∀ v35 : Int, v35 = v34 + (1 : Int) → ∀ v36 : Int, v36 = IntKind.wrap .i64 v35 → ∀ L1 : List Int, L1 = (L0).set ((40 : Int)).toNat v36 → ∀ v37 : Int, v37 = (L1).getD ((40 : Int)).toNat 0 → ∀ L2 : List Int, L2 = (L1).set (v19).toNat v0 → ∀ v38 : Int, v38 = v19 + (1 : Int) → ∀ L3 : List Int, L3 = (L2).set (v38).toNat v1 → ∀ v39 : Int, v39 = v19 + (2 : Int) → ∀ L4 : List Int, L4 = (L3).set (v39).toNat v2 → ∀ v40 : Int, v40 = v19 + (3 : Int) → ∀ L5 : List Int, L5 = (L4).set (v40).toNat v3 → ∀ L6 : List Int, L6 = (L5).set (v31).toNat v37 → Q [(1 : Int)] [L6])))) ∧
((v16 ≤ v22) → ∀ v24 : Int, v24 = (32 : Int) + v22 → ∀ v25 : Int, v25 = (L0).getD (v24).toNat 0 → ∀ v26 : Int, v26 = (32 : Int) + v15 → ∀ v27 : Int, v27 = (L0).getD (v26).toNat 0 → ((v25 < v27) → ∀ v29 : Int, v29 = (L0).getD ((40 : Int)).toNat 0 → ∀ v30 : Int, v30 = v29 + (1 : Int) → ∀ v31 : Int, v31 = IntKind.wrap .i64 v30 → ∀ L1 : List Int, L1 = (L0).set ((40 : Int)).toNat v31 → ∀ v32 : Int, v32 = (L1).getD ((40 : Int)).toNat 0 → ∀ v33 : Int, v33 = v22 * (4 : Int) → ∀ L2 : List Int, L2 = (L1).set (v33).toNat v0 → ∀ v34 : Int, v34 = v33 + (1 : Int) → ∀ L3 : List Int, L3 = (L2).set (v34).toNat v1 → ∀ v35 : Int, v35 = v33 + (2 : Int) → ∀ L4 : List Int, L4 = (L3).set (v35).toNat v2 → ∀ v36 : Int, v36 = v33 + (3 : Int) → ∀ L5 : List Int, L5 = (L4).set (v36).toNat v3 → ∀ L6 : List Int, L6 = (L5).set (v24).toNat v32 → Q [(1 : Int)] [L6]) ∧
((v27 ≤ v25) → ∀ v29 : Int, v29 = (L0).getD ((40 : Int)).toNat 0 → ∀ v30 : Int, v30 = v29 + (1 : Int) → ∀ v31 : Int, v31 = IntKind.wrap .i64 v30 → ∀ L1 : List Int, L1 = (L0).set ((40 : Int)).toNat v31 → ∀ v32 : Int, v32 = (L1).getD ((40 : Int)).toNat 0 → ∀ L2 : List Int, L2 = (L1).set (v19).toNat v0 → ∀ v33 : Int, v33 = v19 + (1 : Int) → ∀ L3 : List Int, L3 = (L2).set (v33).toNat v1 → ∀ v34 : Int, v34 = v19 + (2 : Int) → ∀ L4 : List Int, L4 = (L3).set (v34).toNat v2 → ∀ v35 : Int, v35 = v19 + (3 : Int) → ∀ L5 : List Int, L5 = (L4).set (v35).toNat v3 → ∀ L6 : List Int, L6 = (L5).set (v26).toNat v32 → Q [(1 : Int)] [L6])))) ∧
(((0 : Int) ≤ v13) → ∀ v19 : Int, v19 = (L0).getD ((40 : Int)).toNat 0 → ∀ v20 : Int, v20 = v19 + (1 : Int) → ∀ v21 : Int, v21 = IntKind.wrap .i64 v20 → ∀ L1 : List Int, L1 = (L0).set ((40 : Int)).toNat v21 → ∀ v22 : Int, v22 = (L1).getD ((40 : Int)).toNat 0 → ∀ v23 : Int, v23 = v13 * (4 : Int) → ∀ L2 : List Int, L2 = (L1).set (v23).toNat v0 → ∀ v24 : Int, v24 = v23 + (1 : Int) → ∀ L3 : List Int, L3 = (L2).set (v24).toNat v1 → ∀ v25 : Int, v25 = v23 + (2 : Int) → ∀ L4 : List Int, L4 = (L3).set (v25).toNat v2 → ∀ v26 : Int, v26 = v23 + (3 : Int) → ∀ L5 : List Int, L5 = (L4).set (v26).toNat v3 → ∀ v27 : Int, v27 = (32 : Int) + v13 → ∀ L6 : List Int, L6 = (L5).set (v27).toNat v22 → Q [(1 : Int)] [L6])) ∧
((v16 ≤ v15) → ((v13 < (0 : Int)) → ∀ v19 : Int, v19 = v15 + (1 : Int) → ∀ v20 : Int, v20 = (32 : Int) + v19 → ∀ v21 : Int, v21 = (L0).getD (v20).toNat 0 → ∀ v22 : Int, v22 = (32 : Int) + v15 → ∀ v23 : Int, v23 = (L0).getD (v22).toNat 0 → ((v21 < v23) → ∀ v25 : Int, v25 = (L0).getD ((40 : Int)).toNat 0 → ∀ v26 : Int, v26 = v25 + (1 : Int) → ∀ v27 : Int, v27 = IntKind.wrap .i64 v26 → ∀ L1 : List Int, L1 = (L0).set ((40 : Int)).toNat v27 → ∀ v28 : Int, v28 = (L1).getD ((40 : Int)).toNat 0 → ∀ v29 : Int, v29 = v19 * (4 : Int) → ∀ L2 : List Int, L2 = (L1).set (v29).toNat v0 → ∀ v30 : Int, v30 = v29 + (1 : Int) → ∀ L3 : List Int, L3 = (L2).set (v30).toNat v1 → ∀ v31 : Int, v31 = v29 + (2 : Int) → ∀ L4 : List Int, L4 = (L3).set (v31).toNat v2 → ∀ v32 : Int, v32 = v29 + (3 : Int) → ∀ L5 : List Int, L5 = (L4).set (v32).toNat v3 → ∀ L6 : List Int, L6 = (L5).set (v20).toNat v28 → Q [(1 : Int)] [L6]) ∧
((v23 ≤ v21) → ∀ v25 : Int, v25 = (L0).getD ((40 : Int)).toNat 0 → ∀ v26 : Int, v26 = v25 + (1 : Int) → ∀ v27 : Int, v27 = IntKind.wrap .i64 v26 → ∀ L1 : List Int, L1 = (L0).set ((40 : Int)).toNat v27 → ∀ v28 : Int, v28 = (L1).getD ((40 : Int)).toNat 0 → ∀ v29 : Int, v29 = v15 * (4 : Int) → ∀ L2 : List Int, L2 = (L1).set (v29).toNat v0 → ∀ v30 : Int, v30 = v29 + (1 : Int) → ∀ L3 : List Int, L3 = (L2).set (v30).toNat v1 → ∀ v31 : Int, v31 = v29 + (2 : Int) → ∀ L4 : List Int, L4 = (L3).set (v31).toNat v2 → ∀ v32 : Int, v32 = v29 + (3 : Int) → ∀ L5 : List Int, L5 = (L4).set (v32).toNat v3 → ∀ L6 : List Int, L6 = (L5).set (v22).toNat v28 → Q [(1 : Int)] [L6])) ∧
(((0 : Int) ≤ v13) → ∀ v19 : Int, v19 = (L0).getD ((40 : Int)).toNat 0 → ∀ v20 : Int, v20 = v19 + (1 : Int) → ∀ v21 : Int, v21 = IntKind.wrap .i64 v20 → ∀ L1 : List Int, L1 = (L0).set ((40 : Int)).toNat v21 → ∀ v22 : Int, v22 = (L1).getD ((40 : Int)).toNat 0 → ∀ v23 : Int, v23 = v13 * (4 : Int) → ∀ L2 : List Int, L2 = (L1).set (v23).toNat v0 → ∀ v24 : Int, v24 = v23 + (1 : Int) → ∀ L3 : List Int, L3 = (L2).set (v24).toNat v1 → ∀ v25 : Int, v25 = v23 + (2 : Int) → ∀ L4 : List Int, L4 = (L3).set (v25).toNat v2 → ∀ v26 : Int, v26 = v23 + (3 : Int) → ∀ L5 : List Int, L5 = (L4).set (v26).toNat v3 → ∀ v27 : Int, v27 = (32 : Int) + v13 → ∀ L6 : List Int, L6 = (L5).set (v27).toNat v22 → Q [(1 : Int)] [L6]))))) ∧
((v3 < (1 : Int)) → Q [(0 : Int)] [L0])))))))) := by kernel_rfl
set_option maxHeartbeats 4000000 in
theorem rFill_holds : (L2.rFill).Holds Tryz.prog L2.ro := FSpec.holdsV (cfg := withS (L2.cfg Tryz.prog) [L2.rFind0]) [] 3 200 ra_ok mixed (t := rFill_t) rFill_tree (by
  show ∀ (v0 v1 v2 v3 : Int) (L0 : List Int), _
  intro v0 v1 v2 v3 L0 hp hr hl
  replace hr : (((-9223372036854775808) : Int) ≤ v0 ∧ v0 ≤ ((9223372036854775807) : Int)) ∧ (((-9223372036854775808) : Int) ≤ v1 ∧ v1 ≤ ((9223372036854775807) : Int)) ∧ (((-9223372036854775808) : Int) ≤ v2 ∧ v2 ≤ ((9223372036854775807) : Int)) ∧ (((-9223372036854775808) : Int) ≤ v3 ∧ v3 ≤ ((9223372036854775807) : Int)) ∧ True := hr
  replace hl : (∀ x ∈ L0, (((-9223372036854775808) : Int) ≤ x ∧ x ≤ ((9223372036854775807) : Int))) ∧ True := hl
  show rFill_t.dn ⟨_, []⟩ 4 [v3, v2, v1, v0] 1 [L0]
  rw [rFill_vc]
  have hrf := rfB_range L0 v0 v1 8
  have tm : 0 ≤ v1 → v1.tmod 4 = v1 % 4 := fun h => Int.tmod_eq_emod_of_nonneg h
  simp only [fnSpec_post, fnSpec_pre, true_and, List.cons.injEq, and_true, List.getD_cons_zero, List.getD_cons_succ, and_imp, forall_eq, b2i_zero, b2i_eq, ne_eq, Bool.not_eq_false, Bool.not_eq_true', Bool.not_eq_false', decide_eq_true_eq, decide_eq_false_iff_not, Int.not_lt, Int.not_le]
  repeat' first | refine And.intro ?_ ?_ | intro _
  all_goals clear hr hl hp
  all_goals first | omega | skip
  all_goals grind [lineOk, fillR, placeR, putR, roomR, gI, b2i, rightsB])
noncomputable def rFlush_t : Tree := .call 103 (Go.Sx.L2.rFind0).rel [.v 0, .v 1] [0] 1 0 (.letI (.cmp .leq (.c 0) (.v 2)) (.ite (.v 3) (.letI (.mul (.v 2) (.c 4)) (.letL (.set 0 (.v 4) (.c (-1))) (.letI (.add (.v 4) (.c 1)) (.letL (.set 1 (.v 5) (.c 0)) (.letI (.add (.v 4) (.c 2)) (.letL (.set 2 (.v 6) (.c 0)) (.letI (.add (.v 4) (.c 3)) (.letL (.set 3 (.v 7) (.c 0)) (.done [.c (1)] [4]))))))))) (.done [.c (0)] [0])))
theorem rFlush_tree : (L2.rFlush).exe Tryz.prog (withS (L2.cfg Tryz.prog) [L2.rFind0]) [] 20 200 = rFlush_t := by kernel_rfl
theorem rFlush_vc (Q : List Int → List (List Int) → Prop) (v0 v1 : Int) (L0 : List Int) : rFlush_t.dn ⟨Q, []⟩ 2 [v1, v0] 1 [L0] = ((Go.Sx.L2.rFind0).rel.pre [v0, v1] [L0] ∧
(∀ v2 : Int, (Go.Sx.L2.rFind0).rel.post [v0, v1] [L0] [v2] [] → (((0 : Int) ≤ v2) → ∀ v4 : Int, v4 = v2 * (4 : Int) → ∀ L1 : List Int, L1 = (L0).set (v4).toNat ((-1) : Int) → ∀ v5 : Int, v5 = v4 + (1 : Int) → ∀ L2 : List Int, L2 = (L1).set (v5).toNat (0 : Int) → ∀ v6 : Int, v6 = v4 + (2 : Int) → ∀ L3 : List Int, L3 = (L2).set (v6).toNat (0 : Int) → ∀ v7 : Int, v7 = v4 + (3 : Int) → ∀ L4 : List Int, L4 = (L3).set (v7).toNat (0 : Int) → Q [(1 : Int)] [L4]) ∧
((v2 < (0 : Int)) → Q [(0 : Int)] [L0]))) := by kernel_rfl
set_option maxHeartbeats 4000000 in
theorem rFlush_holds : (L2.rFlush).Holds Tryz.prog L2.ro := FSpec.holdsV (cfg := withS (L2.cfg Tryz.prog) [L2.rFind0]) [] 20 200 ra_ok mixed (t := rFlush_t) rFlush_tree (by
  show ∀ (v0 v1 : Int) (L0 : List Int), _
  intro v0 v1 L0 hp hr hl
  replace hr : (((-9223372036854775808) : Int) ≤ v0 ∧ v0 ≤ ((9223372036854775807) : Int)) ∧ (((-9223372036854775808) : Int) ≤ v1 ∧ v1 ≤ ((9223372036854775807) : Int)) ∧ True := hr
  replace hl : (∀ x ∈ L0, (((-9223372036854775808) : Int) ≤ x ∧ x ≤ ((9223372036854775807) : Int))) ∧ True := hl
  show rFlush_t.dn ⟨_, []⟩ 2 [v1, v0] 1 [L0]
  rw [rFlush_vc]
  have hrf := rfB_range L0 v0 v1 8
  simp only [fnSpec_post, fnSpec_pre, true_and, List.cons.injEq, and_true, List.getD_cons_zero, List.getD_cons_succ, and_imp, forall_eq, b2i_zero, b2i_eq, ne_eq, Bool.not_eq_false, Bool.not_eq_true', Bool.not_eq_false', decide_eq_true_eq, decide_eq_false_iff_not, Int.not_lt, Int.not_le]
  repeat' first | refine And.intro ?_ ?_ | intro _
  all_goals clear hr hl hp
  all_goals first | omega | skip
  all_goals grind [flushR, noneR, gI, b2i])
end Go.Proofs.YtbpilohnhhbbpaaGreatDoor
/- Contract: a load, a store in the document's kernel. -/
set_option linter.unusedVariables false
set_option linter.unusedSimpArgs false
open Go Go.Sx
namespace Go.Proofs.YtbpilohnhhbbpaaGreatDoor
set_option maxRecDepth 100000
noncomputable def rWord_t : Tree := .letI (.mul (.v 0) (.c 16)) (.letI (.add (.c 259) (.v 7)) (.letI (.add (.v 8) (.v 4)) (.letI (.get 0 (.v 9)) (.letI (.cmp .eql (.v 1) (.c 21)) (.ite (.v 11) (.letL (.set 0 (.v 9) (.v 5)) (.done [.c (0)] [1])) (.letI (.cmp .eql (.v 1) (.c 22)) (.ite (.v 12) (.letI (.cmp .eql (.v 5) (.v 10)) (.ite (.v 13) (.letL (.set 0 (.v 9) (.v 6)) (.done [.v 10] [1])) (.done [.v 10] [0]))) (.letI (.cmp .eql (.v 1) (.c 23)) (.ite (.v 13) (.letI (.add (.v 10) (.v 5)) (.letI (.wr .u64 (.v 14)) (.letL (.set 0 (.v 9) (.v 15)) (.done [.v 10] [1])))) (.done [.v 10] [0]))))))))))
theorem rWord_tree : (L2.rWord).exe Tryz.prog (L2.cfg Tryz.prog) [] 20 200 = rWord_t := by kernel_rfl
theorem rWord_vc (Q : List Int → List (List Int) → Prop) (v0 v1 v2 v3 v4 v5 v6 : Int) (L0 : List Int) : rWord_t.dn ⟨Q, []⟩ 7 [v6, v5, v4, v3, v2, v1, v0] 1 [L0] = (∀ v7 : Int, v7 = v0 * (16 : Int) → ∀ v8 : Int, v8 = (259 : Int) + v7 → ∀ v9 : Int, v9 = v8 + v4 → ∀ v10 : Int, v10 = (L0).getD (v9).toNat 0 → ((v1 = (21 : Int)) → ∀ L1 : List Int, L1 = (L0).set (v9).toNat v5 → Q [(0 : Int)] [L1]) ∧
((v1 ≠ (21 : Int)) → ((v1 = (22 : Int)) → ((v5 = v10) → ∀ L1 : List Int, L1 = (L0).set (v9).toNat v6 → Q [v10] [L1]) ∧
((v5 ≠ v10) → Q [v10] [L0])) ∧
((v1 ≠ (22 : Int)) → ((v1 = (23 : Int)) → ∀ v14 : Int, v14 = v10 + v5 → ∀ v15 : Int, v15 = IntKind.wrap .u64 v14 → ∀ L1 : List Int, L1 = (L0).set (v9).toNat v15 → Q [v10] [L1]) ∧
((v1 ≠ (23 : Int)) → Q [v10] [L0])))) := by kernel_rfl
set_option maxHeartbeats 4000000 in
theorem rWord_holds : (L2.rWord).Holds Tryz.prog L2.ro := FSpec.holdsV (cfg := L2.cfg Tryz.prog) [] 20 200 cfg_ok mixed (t := rWord_t) rWord_tree (by
  show ∀ (v0 v1 v2 v3 v4 v5 v6 : Int) (L0 : List Int), _
  intro v0 v1 v2 v3 v4 v5 v6 L0 hp hr hl
  replace hr : (((0) : Int) ≤ v0 ∧ v0 ≤ ((15) : Int)) ∧ (((-9223372036854775808) : Int) ≤ v1 ∧ v1 ≤ ((9223372036854775807) : Int)) ∧ (((0) : Int) ≤ v2 ∧ v2 ≤ ((18446744073709551615) : Int)) ∧ (((0) : Int) ≤ v3 ∧ v3 ≤ ((18446744073709551615) : Int)) ∧ (((0) : Int) ≤ v4 ∧ v4 ≤ ((15) : Int)) ∧ (((0) : Int) ≤ v5 ∧ v5 ≤ ((18446744073709551615) : Int)) ∧ (((0) : Int) ≤ v6 ∧ v6 ≤ ((18446744073709551615) : Int)) ∧ True := hr
  replace hl : (∀ x ∈ L0, (((-9223372036854775808) : Int) ≤ x ∧ x ≤ ((18446744073709551615) : Int))) ∧ True := hl
  show rWord_t.dn ⟨_, []⟩ 7 [v6, v5, v4, v3, v2, v1, v0] 1 [L0]
  rw [rWord_vc]
  clear hp hl
  simp only [fnSpec_post, fnSpec_pre, true_and, List.cons.injEq, and_true, List.getD_cons_zero, List.getD_cons_succ, and_imp, forall_eq, b2i_zero, b2i_eq, ne_eq, Bool.not_eq_false, Bool.not_eq_true', Bool.not_eq_false', decide_eq_true_eq, decide_eq_false_iff_not, Int.not_lt, Int.not_le]
  repeat' first | refine And.intro ?_ ?_ | intro _
  all_goals first | omega | skip
  all_goals grind [wkV, wkL, idK])
end Go.Proofs.YtbpilohnhhbbpaaGreatDoor
/- Contracts: the document's kernel, a memory, new. -/
set_option linter.unusedVariables false
set_option linter.unusedSimpArgs false
open Go Go.Sx
namespace Go.Proofs.YtbpilohnhhbbpaaGreatDoor
set_option maxRecDepth 100000
noncomputable def rKNew_t : Tree := .letL (.lit [.c (1), .c (4), .c (16), .c (0), .c (0), .c (0), .c (0), .c (0), .c (0), .c (0), .c (0), .c (0), .c (0), .c (0), .c (0), .c (0), .c (0), .c (0), .c (0), .c (0), .c (0), .c (0), .c (0), .c (0), .c (0), .c (0), .c (0), .c (0), .c (0), .c (0), .c (0), .c (0), .c (0), .c (0), .c (0), .c (0), .c (0), .c (0), .c (0), .c (0), .c (0), .c (0), .c (0), .c (0), .c (0), .c (0), .c (0), .c (0), .c (0), .c (0), .c (0), .c (0), .c (0), .c (0), .c (0), .c (0), .c (0), .c (0), .c (0), .c (0), .c (0), .c (0), .c (0), .c (0), .c (0), .c (0), .c (0), .c (0), .c (0), .c (0), .c (0), .c (0), .c (0), .c (0), .c (0), .c (0), .c (0), .c (0), .c (0), .c (0), .c (0), .c (0), .c (0), .c (0), .c (0), .c (0), .c (0), .c (0), .c (0), .c (0), .c (0), .c (0), .c (0), .c (0), .c (0), .c (0), .c (0), .c (0), .c (0), .c (0), .c (0), .c (0), .c (0), .c (0), .c (0), .c (0), .c (0), .c (0), .c (0), .c (0), .c (0), .c (0), .c (0), .c (0), .c (0), .c (0), .c (0), .c (0), .c (0), .c (0), .c (0), .c (0), .c (0), .c (0), .c (0), .c (0), .c (0), .c (0), .c (0), .c (0), .c (0), .c (0), .c (0), .c (0), .c (0), .c (0), .c (0), .c (0), .c (0), .c (0), .c (0), .c (0), .c (0), .c (0), .c (0), .c (0), .c (0), .c (0), .c (0), .c (0), .c (0), .c (0), .c (0), .c (0), .c (0), .c (0), .c (0), .c (0), .c (0), .c (0), .c (0), .c (0), .c (0), .c (0), .c (0), .c (0), .c (0), .c (0), .c (0), .c (0), .c (0), .c (0), .c (0), .c (0), .c (0), .c (0), .c (0), .c (0), .c (0), .c (0), .c (0), .c (0), .c (0), .c (0), .c (0), .c (0), .c (0), .c (0), .c (0), .c (0), .c (0), .c (0), .c (0), .c (0), .c (0), .c (0), .c (0), .c (0), .c (0), .c (0), .c (0), .c (0), .c (0), .c (0), .c (0), .c (0), .c (0), .c (0), .c (0), .c (0), .c (0), .c (0), .c (0), .c (0), .c (0), .c (0), .c (0), .c (0), .c (0), .c (0), .c (0), .c (0), .c (0), .c (0), .c (0), .c (0), .c (0), .c (0), .c (0), .c (0), .c (0), .c (0), .c (0), .c (0), .c (0), .c (0), .c (0), .c (0), .c (0), .c (0), .c (0), .c (0), .c (0), .c (0), .c (0), .c (0), .c (0), .c (0), .c (0), .c (0), .c (0), .c (0), .c (0), .c (0), .c (0), .c (0), .c (0), .c (0), .c (0), .c (0), .c (0), .c (0), .c (0), .c (0), .c (0), .c (0), .c (0), .c (0), .c (0), .c (0), .c (0), .c (0), .c (0), .c (0), .c (0), .c (0), .c (0), .c (0), .c (0), .c (0), .c (0), .c (0), .c (0), .c (0), .c (0), .c (0), .c (0), .c (0), .c (0), .c (0), .c (0), .c (0), .c (0), .c (0), .c (0), .c (0), .c (0), .c (0), .c (0), .c (0), .c (0), .c (0), .c (0), .c (0), .c (0), .c (0), .c (0), .c (0), .c (0), .c (0), .c (0), .c (0), .c (0), .c (0), .c (0), .c (0), .c (0), .c (0), .c (0), .c (0), .c (0), .c (0), .c (0), .c (0), .c (0), .c (0), .c (0), .c (0), .c (0), .c (0), .c (0), .c (0), .c (0), .c (0), .c (0), .c (0), .c (0), .c (0), .c (0), .c (0), .c (0), .c (0), .c (0), .c (0), .c (0), .c (0), .c (0), .c (0), .c (0), .c (0), .c (0), .c (0), .c (0), .c (0), .c (0), .c (0), .c (0), .c (0), .c (0), .c (0), .c (0), .c (0), .c (0), .c (0), .c (0), .c (0), .c (0), .c (0), .c (0), .c (0), .c (0), .c (0), .c (0), .c (0), .c (0), .c (0), .c (0), .c (0), .c (0), .c (0), .c (0), .c (0), .c (0), .c (0), .c (0), .c (0), .c (0), .c (0), .c (0), .c (0), .c (0), .c (0), .c (0), .c (0), .c (0), .c (0), .c (0), .c (0), .c (0), .c (0), .c (0), .c (0), .c (0), .c (0), .c (0), .c (0), .c (0), .c (0), .c (0), .c (0), .c (0), .c (0), .c (0), .c (0), .c (0), .c (0), .c (0), .c (0), .c (0), .c (0), .c (0), .c (0), .c (0), .c (0), .c (0), .c (0), .c (0), .c (0), .c (0), .c (0), .c (0), .c (0), .c (0), .c (0), .c (0), .c (0), .c (0), .c (0), .c (0), .c (0), .c (0), .c (0), .c (0), .c (0), .c (0), .c (0), .c (0), .c (0), .c (0), .c (0), .c (0), .c (0), .c (0), .c (0), .c (0), .c (0), .c (0), .c (0), .c (0), .c (0), .c (0), .c (0), .c (0), .c (0), .c (0), .c (0), .c (0), .c (0), .c (0), .c (0), .c (0), .c (0), .c (0), .c (0), .c (0), .c (0), .c (0), .c (0), .c (0), .c (0), .c (0), .c (0), .c (0), .c (0), .c (0), .c (0), .c (0), .c (0), .c (0), .c (0), .c (0), .c (0), .c (0), .c (0), .c (0), .c (0), .c (0), .c (0), .c (0), .c (0), .c (0), .c (0), .c (0), .c (0), .c (0), .c (0), .c (0), .c (0), .c (0), .c (0), .c (0), .c (0), .c (0), .c (0), .c (0)]) (.done [] [0])
theorem rKNew_tree : (L2.rKNew).exe Tryz.prog (L2.cfg Tryz.prog) [] 20 200 = rKNew_t := by kernel_rfl
theorem rKNew_vc (Q : List Int → List (List Int) → Prop) : rKNew_t.dn ⟨Q, []⟩ 0 [] 0 [] = (∀ L0 : List Int, L0 = [(1 : Int), (4 : Int), (16 : Int), (0 : Int), (0 : Int), (0 : Int), (0 : Int), (0 : Int), (0 : Int), (0 : Int), (0 : Int), (0 : Int), (0 : Int), (0 : Int), (0 : Int), (0 : Int), (0 : Int), (0 : Int), (0 : Int), (0 : Int), (0 : Int), (0 : Int), (0 : Int), (0 : Int), (0 : Int), (0 : Int), (0 : Int), (0 : Int), (0 : Int), (0 : Int), (0 : Int), (0 : Int), (0 : Int), (0 : Int), (0 : Int), (0 : Int), (0 : Int), (0 : Int), (0 : Int), (0 : Int), (0 : Int), (0 : Int), (0 : Int), (0 : Int), (0 : Int), (0 : Int), (0 : Int), (0 : Int), (0 : Int), (0 : Int), (0 : Int), (0 : Int), (0 : Int), (0 : Int), (0 : Int), (0 : Int), (0 : Int), (0 : Int), (0 : Int), (0 : Int), (0 : Int), (0 : Int), (0 : Int), (0 : Int), (0 : Int), (0 : Int), (0 : Int), (0 : Int), (0 : Int), (0 : Int), (0 : Int), (0 : Int), (0 : Int), (0 : Int), (0 : Int), (0 : Int), (0 : Int), (0 : Int), (0 : Int), (0 : Int), (0 : Int), (0 : Int), (0 : Int), (0 : Int), (0 : Int), (0 : Int), (0 : Int), (0 : Int), (0 : Int), (0 : Int), (0 : Int), (0 : Int), (0 : Int), (0 : Int), (0 : Int), (0 : Int), (0 : Int), (0 : Int), (0 : Int), (0 : Int), (0 : Int), (0 : Int), (0 : Int), (0 : Int), (0 : Int), (0 : Int), (0 : Int), (0 : Int), (0 : Int), (0 : Int), (0 : Int), (0 : Int), (0 : Int), (0 : Int), (0 : Int), (0 : Int), (0 : Int), (0 : Int), (0 : Int), (0 : Int), (0 : Int), (0 : Int), (0 : Int), (0 : Int), (0 : Int), (0 : Int), (0 : Int), (0 : Int), (0 : Int), (0 : Int), (0 : Int), (0 : Int), (0 : Int), (0 : Int), (0 : Int), (0 : Int), (0 : Int), (0 : Int), (0 : Int), (0 : Int), (0 : Int), (0 : Int), (0 : Int), (0 : Int), (0 : Int), (0 : Int), (0 : Int), (0 : Int), (0 : Int), (0 : Int), (0 : Int), (0 : Int), (0 : Int), (0 : Int), (0 : Int), (0 : Int), (0 : Int), (0 : Int), (0 : Int), (0 : Int), (0 : Int), (0 : Int), (0 : Int), (0 : Int), (0 : Int), (0 : Int), (0 : Int), (0 : Int), (0 : Int), (0 : Int), (0 : Int), (0 : Int), (0 : Int), (0 : Int), (0 : Int), (0 : Int), (0 : Int), (0 : Int), (0 : Int), (0 : Int), (0 : Int), (0 : Int), (0 : Int), (0 : Int), (0 : Int), (0 : Int), (0 : Int), (0 : Int), (0 : Int), (0 : Int), (0 : Int), (0 : Int), (0 : Int), (0 : Int), (0 : Int), (0 : Int), (0 : Int), (0 : Int), (0 : Int), (0 : Int), (0 : Int), (0 : Int), (0 : Int), (0 : Int), (0 : Int), (0 : Int), (0 : Int), (0 : Int), (0 : Int), (0 : Int), (0 : Int), (0 : Int), (0 : Int), (0 : Int), (0 : Int), (0 : Int), (0 : Int), (0 : Int), (0 : Int), (0 : Int), (0 : Int), (0 : Int), (0 : Int), (0 : Int), (0 : Int), (0 : Int), (0 : Int), (0 : Int), (0 : Int), (0 : Int), (0 : Int), (0 : Int), (0 : Int), (0 : Int), (0 : Int), (0 : Int), (0 : Int), (0 : Int), (0 : Int), (0 : Int), (0 : Int), (0 : Int), (0 : Int), (0 : Int), (0 : Int), (0 : Int), (0 : Int), (0 : Int), (0 : Int), (0 : Int), (0 : Int), (0 : Int), (0 : Int), (0 : Int), (0 : Int), (0 : Int), (0 : Int), (0 : Int), (0 : Int), (0 : Int), (0 : Int), (0 : Int), (0 : Int), (0 : Int), (0 : Int), (0 : Int), (0 : Int), (0 : Int), (0 : Int), (0 : Int), (0 : Int), (0 : Int), (0 : Int), (0 : Int), (0 : Int), (0 : Int), (0 : Int), (0 : Int), (0 : Int), (0 : Int), (0 : Int), (0 : Int), (0 : Int), (0 : Int), (0 : Int), (0 : Int), (0 : Int), (0 : Int), (0 : Int), (0 : Int), (0 : Int), (0 : Int), (0 : Int), (0 : Int), (0 : Int), (0 : Int), (0 : Int), (0 : Int), (0 : Int), (0 : Int), (0 : Int), (0 : Int), (0 : Int), (0 : Int), (0 : Int), (0 : Int), (0 : Int), (0 : Int), (0 : Int), (0 : Int), (0 : Int), (0 : Int), (0 : Int), (0 : Int), (0 : Int), (0 : Int), (0 : Int), (0 : Int), (0 : Int), (0 : Int), (0 : Int), (0 : Int), (0 : Int), (0 : Int), (0 : Int), (0 : Int), (0 : Int), (0 : Int), (0 : Int), (0 : Int), (0 : Int), (0 : Int), (0 : Int), (0 : Int), (0 : Int), (0 : Int), (0 : Int), (0 : Int), (0 : Int), (0 : Int), (0 : Int), (0 : Int), (0 : Int), (0 : Int), (0 : Int), (0 : Int), (0 : Int), (0 : Int), (0 : Int), (0 : Int), (0 : Int), (0 : Int), (0 : Int), (0 : Int), (0 : Int), (0 : Int), (0 : Int), (0 : Int), (0 : Int), (0 : Int), (0 : Int), (0 : Int), (0 : Int), (0 : Int), (0 : Int), (0 : Int), (0 : Int), (0 : Int), (0 : Int), (0 : Int), (0 : Int), (0 : Int), (0 : Int), (0 : Int), (0 : Int), (0 : Int), (0 : Int), (0 : Int), (0 : Int), (0 : Int), (0 : Int), (0 : Int), (0 : Int), (0 : Int), (0 : Int), (0 : Int), (0 : Int), (0 : Int), (0 : Int), (0 : Int), (0 : Int), (0 : Int), (0 : Int), (0 : Int), (0 : Int), (0 : Int), (0 : Int), (0 : Int), (0 : Int), (0 : Int), (0 : Int), (0 : Int), (0 : Int), (0 : Int), (0 : Int), (0 : Int), (0 : Int), (0 : Int), (0 : Int), (0 : Int), (0 : Int), (0 : Int), (0 : Int), (0 : Int), (0 : Int), (0 : Int), (0 : Int), (0 : Int), (0 : Int), (0 : Int), (0 : Int), (0 : Int), (0 : Int), (0 : Int), (0 : Int), (0 : Int), (0 : Int), (0 : Int), (0 : Int), (0 : Int), (0 : Int), (0 : Int), (0 : Int), (0 : Int), (0 : Int), (0 : Int), (0 : Int), (0 : Int), (0 : Int), (0 : Int), (0 : Int), (0 : Int), (0 : Int), (0 : Int), (0 : Int), (0 : Int), (0 : Int), (0 : Int), (0 : Int), (0 : Int), (0 : Int), (0 : Int), (0 : Int), (0 : Int), (0 : Int), (0 : Int), (0 : Int), (0 : Int), (0 : Int), (0 : Int), (0 : Int), (0 : Int), (0 : Int), (0 : Int), (0 : Int), (0 : Int), (0 : Int), (0 : Int), (0 : Int), (0 : Int), (0 : Int), (0 : Int), (0 : Int), (0 : Int), (0 : Int), (0 : Int), (0 : Int), (0 : Int), (0 : Int), (0 : Int), (0 : Int), (0 : Int), (0 : Int), (0 : Int), (0 : Int), (0 : Int), (0 : Int), (0 : Int), (0 : Int), (0 : Int), (0 : Int), (0 : Int), (0 : Int), (0 : Int), (0 : Int), (0 : Int), (0 : Int), (0 : Int), (0 : Int), (0 : Int), (0 : Int), (0 : Int), (0 : Int), (0 : Int), (0 : Int), (0 : Int), (0 : Int), (0 : Int), (0 : Int), (0 : Int), (0 : Int), (0 : Int), (0 : Int), (0 : Int), (0 : Int)] → Q [] [L0]) := by kernel_rfl
set_option maxHeartbeats 4000000 in
theorem rKNew_holds : (L2.rKNew).Holds Tryz.prog L2.ro := FSpec.holdsV (cfg := L2.cfg Tryz.prog) [] 20 200 cfg_ok mixed (t := rKNew_t) rKNew_tree (by
  show _ → _
  intro   hp hr hl
  replace hr : True := hr
  replace hl : True := hl
  show rKNew_t.dn ⟨_, []⟩ 0 [] 0 []
  rw [rKNew_vc]
  intro L0 e0
  exact ⟨rfl, by rw [e0]; kernel_rfl⟩)
noncomputable def mNew16_t : Tree := .any (.c 1) (.c 9223372036854775807) (.any (.c 2) (.c 9223372036854775807) (.any (.c 3) (.c 9223372036854775807) (.any (.c 4) (.c 9223372036854775807) (.any (.c 5) (.c 9223372036854775807) (.any (.c 6) (.c 9223372036854775807) (.any (.c 7) (.c 9223372036854775807) (.any (.c 8) (.c 9223372036854775807) (.any (.c 9) (.c 9223372036854775807) (.any (.c 10) (.c 9223372036854775807) (.any (.c 11) (.c 9223372036854775807) (.any (.c 12) (.c 9223372036854775807) (.any (.c 13) (.c 9223372036854775807) (.any (.c 14) (.c 9223372036854775807) (.any (.c 15) (.c 9223372036854775807) (.any (.c 16) (.c 9223372036854775807) (.letL (.lit [.c (0), .c (0), .c (0), .c (0), .c (0), .c (0), .c (0), .c (0), .c (0), .c (0), .c (0), .c (0), .c (0), .c (0), .c (0), .c (0)]) (.letL (.lit [.c (0), .c (0), .c (0), .c (0), .c (0), .c (0), .c (0), .c (0), .c (0), .c (0), .c (0), .c (0), .c (0), .c (0), .c (0), .c (0)]) (.letL (.lit [.c (0), .c (0), .c (0), .c (0), .c (0), .c (0), .c (0), .c (0), .c (0), .c (0), .c (0), .c (0), .c (0), .c (0), .c (0), .c (0)]) (.letL (.lit [.c (0), .c (0), .c (0), .c (0), .c (0), .c (0), .c (0), .c (0), .c (0), .c (0), .c (0), .c (0), .c (0), .c (0), .c (0), .c (0)]) (.letL (.lit [.c (0), .c (0), .c (0), .c (0), .c (0), .c (0), .c (0), .c (0), .c (0), .c (0), .c (0), .c (0), .c (0), .c (0), .c (0), .c (0)]) (.letL (.lit [.c (0), .c (0), .c (0), .c (0), .c (0), .c (0), .c (0), .c (0), .c (0), .c (0), .c (0), .c (0), .c (0), .c (0), .c (0), .c (0)]) (.letL (.lit [.c (0), .c (0), .c (0), .c (0), .c (0), .c (0), .c (0), .c (0), .c (0), .c (0), .c (0), .c (0), .c (0), .c (0), .c (0), .c (0)]) (.letL (.lit [.c (0), .c (0), .c (0), .c (0), .c (0), .c (0), .c (0), .c (0), .c (0), .c (0), .c (0), .c (0), .c (0), .c (0), .c (0), .c (0)]) (.letL (.lit [.c (0), .c (0), .c (0), .c (0), .c (0), .c (0), .c (0), .c (0), .c (0), .c (0), .c (0), .c (0), .c (0), .c (0), .c (0), .c (0)]) (.letL (.lit [.c (0), .c (0), .c (0), .c (0), .c (0), .c (0), .c (0), .c (0), .c (0), .c (0), .c (0), .c (0), .c (0), .c (0), .c (0), .c (0)]) (.letL (.lit [.c (0), .c (0), .c (0), .c (0), .c (0), .c (0), .c (0), .c (0), .c (0), .c (0), .c (0), .c (0), .c (0), .c (0), .c (0), .c (0)]) (.letL (.lit [.c (0), .c (0), .c (0), .c (0), .c (0), .c (0), .c (0), .c (0), .c (0), .c (0), .c (0), .c (0), .c (0), .c (0), .c (0), .c (0)]) (.letL (.lit [.c (0), .c (0), .c (0), .c (0), .c (0), .c (0), .c (0), .c (0), .c (0), .c (0), .c (0), .c (0), .c (0), .c (0), .c (0), .c (0)]) (.letL (.lit [.c (0), .c (0), .c (0), .c (0), .c (0), .c (0), .c (0), .c (0), .c (0), .c (0), .c (0), .c (0), .c (0), .c (0), .c (0), .c (0)]) (.letL (.lit [.c (0), .c (0), .c (0), .c (0), .c (0), .c (0), .c (0), .c (0), .c (0), .c (0), .c (0), .c (0), .c (0), .c (0), .c (0), .c (0)]) (.letL (.lit [.c (0), .c (0), .c (0), .c (0), .c (0), .c (0), .c (0), .c (0), .c (0), .c (0), .c (0), .c (0), .c (0), .c (0), .c (0), .c (0)]) (.done [.v 15] [0, 1, 2, 3, 4, 5, 6, 7, 8, 9, 10, 11, 12, 13, 14, 15]))))))))))))))))))))))))))))))))
theorem mNew16_tree : (L2.mNew16).exe Tryz.prog (L2.cfg Tryz.prog) [] 20 200 = mNew16_t := by kernel_rfl
theorem mNew16_vc (Q : List Int → List (List Int) → Prop) : mNew16_t.dn ⟨Q, []⟩ 0 [] 0 [] = (∀ v0 : Int, (1 : Int) ≤ v0 → v0 ≤ (9223372036854775807 : Int) → ∀ v1 : Int, (2 : Int) ≤ v1 → v1 ≤ (9223372036854775807 : Int) → ∀ v2 : Int, (3 : Int) ≤ v2 → v2 ≤ (9223372036854775807 : Int) → ∀ v3 : Int, (4 : Int) ≤ v3 → v3 ≤ (9223372036854775807 : Int) → ∀ v4 : Int, (5 : Int) ≤ v4 → v4 ≤ (9223372036854775807 : Int) → ∀ v5 : Int, (6 : Int) ≤ v5 → v5 ≤ (9223372036854775807 : Int) → ∀ v6 : Int, (7 : Int) ≤ v6 → v6 ≤ (9223372036854775807 : Int) → ∀ v7 : Int, (8 : Int) ≤ v7 → v7 ≤ (9223372036854775807 : Int) → ∀ v8 : Int, (9 : Int) ≤ v8 → v8 ≤ (9223372036854775807 : Int) → ∀ v9 : Int, (10 : Int) ≤ v9 → v9 ≤ (9223372036854775807 : Int) → ∀ v10 : Int, (11 : Int) ≤ v10 → v10 ≤ (9223372036854775807 : Int) → ∀ v11 : Int, (12 : Int) ≤ v11 → v11 ≤ (9223372036854775807 : Int) → ∀ v12 : Int, (13 : Int) ≤ v12 → v12 ≤ (9223372036854775807 : Int) → ∀ v13 : Int, (14 : Int) ≤ v13 → v13 ≤ (9223372036854775807 : Int) → ∀ v14 : Int, (15 : Int) ≤ v14 → v14 ≤ (9223372036854775807 : Int) → ∀ v15 : Int, (16 : Int) ≤ v15 → v15 ≤ (9223372036854775807 : Int) → ∀ L0 : List Int, L0 = [(0 : Int), (0 : Int), (0 : Int), (0 : Int), (0 : Int), (0 : Int), (0 : Int), (0 : Int), (0 : Int), (0 : Int), (0 : Int), (0 : Int), (0 : Int), (0 : Int), (0 : Int), (0 : Int)] → ∀ L1 : List Int, L1 = [(0 : Int), (0 : Int), (0 : Int), (0 : Int), (0 : Int), (0 : Int), (0 : Int), (0 : Int), (0 : Int), (0 : Int), (0 : Int), (0 : Int), (0 : Int), (0 : Int), (0 : Int), (0 : Int)] → ∀ L2 : List Int, L2 = [(0 : Int), (0 : Int), (0 : Int), (0 : Int), (0 : Int), (0 : Int), (0 : Int), (0 : Int), (0 : Int), (0 : Int), (0 : Int), (0 : Int), (0 : Int), (0 : Int), (0 : Int), (0 : Int)] → ∀ L3 : List Int, L3 = [(0 : Int), (0 : Int), (0 : Int), (0 : Int), (0 : Int), (0 : Int), (0 : Int), (0 : Int), (0 : Int), (0 : Int), (0 : Int), (0 : Int), (0 : Int), (0 : Int), (0 : Int), (0 : Int)] → ∀ L4 : List Int, L4 = [(0 : Int), (0 : Int), (0 : Int), (0 : Int), (0 : Int), (0 : Int), (0 : Int), (0 : Int), (0 : Int), (0 : Int), (0 : Int), (0 : Int), (0 : Int), (0 : Int), (0 : Int), (0 : Int)] → ∀ L5 : List Int, L5 = [(0 : Int), (0 : Int), (0 : Int), (0 : Int), (0 : Int), (0 : Int), (0 : Int), (0 : Int), (0 : Int), (0 : Int), (0 : Int), (0 : Int), (0 : Int), (0 : Int), (0 : Int), (0 : Int)] → ∀ L6 : List Int, L6 = [(0 : Int), (0 : Int), (0 : Int), (0 : Int), (0 : Int), (0 : Int), (0 : Int), (0 : Int), (0 : Int), (0 : Int), (0 : Int), (0 : Int), (0 : Int), (0 : Int), (0 : Int), (0 : Int)] → ∀ L7 : List Int, L7 = [(0 : Int), (0 : Int), (0 : Int), (0 : Int), (0 : Int), (0 : Int), (0 : Int), (0 : Int), (0 : Int), (0 : Int), (0 : Int), (0 : Int), (0 : Int), (0 : Int), (0 : Int), (0 : Int)] → ∀ L8 : List Int, L8 = [(0 : Int), (0 : Int), (0 : Int), (0 : Int), (0 : Int), (0 : Int), (0 : Int), (0 : Int), (0 : Int), (0 : Int), (0 : Int), (0 : Int), (0 : Int), (0 : Int), (0 : Int), (0 : Int)] → ∀ L9 : List Int, L9 = [(0 : Int), (0 : Int), (0 : Int), (0 : Int), (0 : Int), (0 : Int), (0 : Int), (0 : Int), (0 : Int), (0 : Int), (0 : Int), (0 : Int), (0 : Int), (0 : Int), (0 : Int), (0 : Int)] → ∀ L10 : List Int, L10 = [(0 : Int), (0 : Int), (0 : Int), (0 : Int), (0 : Int), (0 : Int), (0 : Int), (0 : Int), (0 : Int), (0 : Int), (0 : Int), (0 : Int), (0 : Int), (0 : Int), (0 : Int), (0 : Int)] → ∀ L11 : List Int, L11 = [(0 : Int), (0 : Int), (0 : Int), (0 : Int), (0 : Int), (0 : Int), (0 : Int), (0 : Int), (0 : Int), (0 : Int), (0 : Int), (0 : Int), (0 : Int), (0 : Int), (0 : Int), (0 : Int)] → ∀ L12 : List Int, L12 = [(0 : Int), (0 : Int), (0 : Int), (0 : Int), (0 : Int), (0 : Int), (0 : Int), (0 : Int), (0 : Int), (0 : Int), (0 : Int), (0 : Int), (0 : Int), (0 : Int), (0 : Int), (0 : Int)] → ∀ L13 : List Int, L13 = [(0 : Int), (0 : Int), (0 : Int), (0 : Int), (0 : Int), (0 : Int), (0 : Int), (0 : Int), (0 : Int), (0 : Int), (0 : Int), (0 : Int), (0 : Int), (0 : Int), (0 : Int), (0 : Int)] → ∀ L14 : List Int, L14 = [(0 : Int), (0 : Int), (0 : Int), (0 : Int), (0 : Int), (0 : Int), (0 : Int), (0 : Int), (0 : Int), (0 : Int), (0 : Int), (0 : Int), (0 : Int), (0 : Int), (0 : Int), (0 : Int)] → ∀ L15 : List Int, L15 = [(0 : Int), (0 : Int), (0 : Int), (0 : Int), (0 : Int), (0 : Int), (0 : Int), (0 : Int), (0 : Int), (0 : Int), (0 : Int), (0 : Int), (0 : Int), (0 : Int), (0 : Int), (0 : Int)] → Q [v15] [L0, L1, L2, L3, L4, L5, L6, L7, L8, L9, L10, L11, L12, L13, L14, L15]) := by kernel_rfl
set_option maxHeartbeats 4000000 in
theorem mNew16_holds : (L2.mNew16).Holds Tryz.prog L2.ro := FSpec.holdsV (cfg := L2.cfg Tryz.prog) [] 20 200 cfg_ok mixed (t := mNew16_t) mNew16_tree (by
  show _ → _
  intro   hp hr hl
  replace hr : True := hr
  replace hl : True := hl
  show mNew16_t.dn ⟨_, []⟩ 0 [] 0 []
  rw [mNew16_vc]
  iterate 16 (intro _ _ _)
  intro L0 e0 L1 e1 L2 e2 L3 e3 L4 e4 L5 e5 L6 e6 L7 e7 L8 e8 L9 e9 L10 e10 L11 e11 L12 e12 L13 e13 L14 e14 L15 e15
  subst e0 e1 e2 e3 e4 e5 e6 e7 e8 e9 e10 e11 e12 e13 e14 e15
  rfl)
end Go.Proofs.YtbpilohnhhbbpaaGreatDoor
