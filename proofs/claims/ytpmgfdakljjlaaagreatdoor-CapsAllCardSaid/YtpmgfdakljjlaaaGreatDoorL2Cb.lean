/- Contracts: the capabilities below a place, those of a frame. -/
import Derived.Test.YtpmgfdakljjlaaaGreatDoorL2Ca
set_option linter.unusedVariables false
set_option linter.constructorNameAsVariable false
set_option linter.unusedSimpArgs false
open Go Go.Sx
namespace Go.Proofs.YtpmgfdakljjlaaaGreatDoor
set_option maxRecDepth 100000
theorem cb_ok : (withS (L2.cfg Tryz.prog) [L2.cUnder]).Ok Tryz.prog := withS_ok cfg_ok ⟨cUnder_holds, trivial⟩
noncomputable def cOf_t : Tree := .letL (.lit []) (.loop [.c (0), .c (0), .c (0), .c (0), .c (0)] [1] (.letI (.cmp .lss (.v 3) (.v 0)) (.ite (.v 8) (.need .lss (.v 3) (.v 0) (.letI (.mul (.v 3) (.c 32)) (.need .lss (.v 9) (.v 1) (.letI (.get 0 (.v 9)) (.letI (.add (.v 9) (.c 1)) (.need .lss (.v 11) (.v 1) (.letI (.get 0 (.v 11)) (.letI (.add (.v 9) (.c 2)) (.need .lss (.v 13) (.v 1) (.letI (.get 0 (.v 13)) (.letI (.add (.v 9) (.c 3)) (.need .lss (.v 15) (.v 1) (.letI (.get 0 (.v 15)) (.letI (.add (.v 9) (.c 4)) (.need .lss (.v 17) (.v 1) (.letI (.get 0 (.v 17)) (.letI (.add (.v 9) (.c 5)) (.need .lss (.v 19) (.v 1) (.letI (.get 0 (.v 19)) (.letI (.add (.v 9) (.c 6)) (.need .lss (.v 21) (.v 1) (.letI (.get 0 (.v 21)) (.letI (.add (.v 9) (.c 7)) (.need .lss (.v 23) (.v 1) (.letI (.get 0 (.v 23)) (.letI (.add (.v 9) (.c 8)) (.need .lss (.v 25) (.v 1) (.letI (.get 0 (.v 25)) (.letI (.add (.v 9) (.c 9)) (.need .lss (.v 27) (.v 1) (.letI (.get 0 (.v 27)) (.letI (.add (.v 9) (.c 10)) (.need .lss (.v 29) (.v 1) (.letI (.get 0 (.v 29)) (.letI (.add (.v 9) (.c 11)) (.need .lss (.v 31) (.v 1) (.letI (.get 0 (.v 31)) (.letI (.add (.v 9) (.c 12)) (.need .lss (.v 33) (.v 1) (.letI (.get 0 (.v 33)) (.letI (.add (.v 9) (.c 13)) (.need .lss (.v 35) (.v 1) (.letI (.get 0 (.v 35)) (.letI (.add (.v 9) (.c 14)) (.need .lss (.v 37) (.v 1) (.letI (.get 0 (.v 37)) (.letI (.add (.v 9) (.c 15)) (.need .lss (.v 39) (.v 1) (.letI (.get 0 (.v 39)) (.letI (.add (.v 9) (.c 16)) (.need .lss (.v 41) (.v 1) (.letI (.get 0 (.v 41)) (.letI (.add (.v 9) (.c 17)) (.need .lss (.v 43) (.v 1) (.letI (.get 0 (.v 43)) (.letI (.add (.v 9) (.c 18)) (.need .lss (.v 45) (.v 1) (.letI (.get 0 (.v 45)) (.letI (.add (.v 9) (.c 19)) (.need .lss (.v 47) (.v 1) (.letI (.get 0 (.v 47)) (.letI (.add (.v 9) (.c 20)) (.need .lss (.v 49) (.v 1) (.letI (.get 0 (.v 49)) (.letI (.add (.v 9) (.c 21)) (.need .lss (.v 51) (.v 1) (.letI (.get 0 (.v 51)) (.letI (.add (.v 9) (.c 22)) (.need .lss (.v 53) (.v 1) (.letI (.get 0 (.v 53)) (.letI (.add (.v 9) (.c 23)) (.need .lss (.v 55) (.v 1) (.letI (.get 0 (.v 55)) (.letI (.add (.v 9) (.c 24)) (.need .lss (.v 57) (.v 1) (.letI (.get 0 (.v 57)) (.letI (.add (.v 9) (.c 25)) (.need .lss (.v 59) (.v 1) (.letI (.get 0 (.v 59)) (.letI (.add (.v 9) (.c 26)) (.need .lss (.v 61) (.v 1) (.letI (.get 0 (.v 61)) (.letI (.add (.v 9) (.c 27)) (.need .lss (.v 63) (.v 1) (.letI (.get 0 (.v 63)) (.letI (.add (.v 9) (.c 28)) (.need .lss (.v 65) (.v 1) (.letI (.get 0 (.v 65)) (.letI (.add (.v 9) (.c 29)) (.need .lss (.v 67) (.v 1) (.letI (.get 0 (.v 67)) (.letI (.add (.v 9) (.c 30)) (.need .lss (.v 69) (.v 1) (.letI (.get 0 (.v 69)) (.letI (.add (.v 9) (.c 31)) (.need .lss (.v 71) (.v 1) (.letI (.get 0 (.v 71)) (.loop [.c (0), .v 4, .v 5, .v 6, .v 7] [2] (.letI (.cmp .lss (.v 73) (.c 8)) (.ite (.v 78) (.letI (.mul (.v 73) (.c 4)) (.letI (.add (.v 79) (.c 4)) (.letL (.lit [.v 10, .v 12, .v 14, .v 16, .v 18, .v 20, .v 22, .v 24, .v 26, .v 28, .v 30, .v 32, .v 34, .v 36, .v 38, .v 40, .v 42, .v 44, .v 46, .v 48, .v 50, .v 52, .v 54, .v 56, .v 58, .v 60, .v 62, .v 64, .v 66, .v 68, .v 70, .v 72]) (.letI (.get 4 (.v 79)) (.letI (.add (.v 79) (.c 1)) (.letI (.get 4 (.v 82)) (.letI (.add (.v 79) (.c 2)) (.letI (.get 4 (.v 84)) (.letI (.add (.v 79) (.c 3)) (.letI (.get 4 (.v 86)) (.letI (.cmp .neq (.v 83) (.c 0)) (.ite (.v 88) (.letI (.cmp .eql (.v 2) (.v 81)) (.ite (.v 89) (.letL (.lit [.v 3, .v 73]) (.letI (.add (.v 74) (.c 1)) (.need .leq (.v 90) (.c 1000000) (.need .leq (.v 74) (.v 75) (.letI (.mul (.v 74) (.c 2)) (.need .leq (.v 91) (.v 76) (.letI (.mul (.v 75) (.c 2)) (.need .eql (.v 92) (.v 77) (.letL (.take 3 (.v 91)) (.letL (.app 6 5) (.any (.v 90) (.c 9223372036854775807) (.letI (.mul (.v 90) (.c 2)) (.letI (.mul (.v 93) (.c 2)) (.letI (.add (.v 73) (.c 1)) (.need .leq (.v 94) (.c 1000000) (.again [.v 96, .v 90, .v 93, .v 94, .v 95] [7])))))))))))))))) (.letI (.add (.v 73) (.c 1)) (.again [.v 90, .v 74, .v 75, .v 76, .v 77] [3])))) (.letI (.add (.v 73) (.c 1)) (.again [.v 89, .v 74, .v 75, .v 76, .v 77] [3])))))))))))))) (.exit (.letI (.add (.v 3) (.c 1)) (.again [.v 79, .v 74, .v 75, .v 76, .v 77] [3]))))))))))))))))))))))))))))))))))))))))))))))))))))))))))))))))))))))))))))))))))))))))))))))))))))))) (.exit (.need .leq (.v 4) (.c 32) (.need .leq (.v 6) (.c 64) (.need .leq (.v 7) (.c 18446744073709551614) (.done [.v 4, .v 5, .v 6, .v 7] [2]))))))))
theorem cOf_tree : (L2.cOf).exe Tryz.prog (withS (L2.cfg Tryz.prog) [L2.cUnder]) [{ f := L2.f_caps_Tree_all, reg := 5, ints := [(17, 0, 4)], vecs := [(5, some (0, 7))], nils := [(5, [.i .i64], L2.t_caps_Place)], wide := [5] }, { f := L2.f_caps_Tree_all, reg := 8, ints := [(27, 0, 8)], vecs := [(5, some (0, 7))], nils := [(5, [.i .i64], L2.t_caps_Place)], wide := [5] }] 20 200 = cOf_t := by kernel_rfl
theorem cOf_vc (Q : List Int → List (List Int) → Prop) (v0 v1 v2 : Int) (L0 : List Int) : cOf_t.dn ⟨Q, []⟩ 3 [v2, v1, v0] 1 [L0] = (∀ L1 : List Int, L1 = [] → ∃ (I0 : List Int → List (List Int) → Prop) (μ0 : List Int → List (List Int) → Nat), I0 [(0 : Int), (0 : Int), (0 : Int), (0 : Int), (0 : Int)] [L1] ∧
(∀ v3 : Int, ∀ v4 : Int, ∀ v5 : Int, ∀ v6 : Int, ∀ v7 : Int, ∀ L2 : List Int, I0 [v3, v4, v5, v6, v7] [L2] →
 ((v3 < v0) → (v3 < v0) ∧ ∀ v9 : Int, v9 = v3 * (32 : Int) → (v9 < v1) ∧ ∀ v10 : Int, v10 = (L0).getD (v9).toNat 0 → ∀ v11 : Int, v11 = v9 + (1 : Int) → (v11 < v1) ∧ ∀ v12 : Int, v12 = (L0).getD (v11).toNat 0 → ∀ v13 : Int, v13 = v9 + (2 : Int) → (v13 < v1) ∧ ∀ v14 : Int, v14 = (L0).getD (v13).toNat 0 → ∀ v15 : Int, v15 = v9 + (3 : Int) → (v15 < v1) ∧ ∀ v16 : Int, v16 = (L0).getD (v15).toNat 0 → ∀ v17 : Int, v17 = v9 + (4 : Int) → (v17 < v1) ∧ ∀ v18 : Int, v18 = (L0).getD (v17).toNat 0 → ∀ v19 : Int, v19 = v9 + (5 : Int) → (v19 < v1) ∧ ∀ v20 : Int, v20 = (L0).getD (v19).toNat 0 → ∀ v21 : Int, v21 = v9 + (6 : Int) → (v21 < v1) ∧ ∀ v22 : Int, v22 = (L0).getD (v21).toNat 0 → ∀ v23 : Int, v23 = v9 + (7 : Int) → (v23 < v1) ∧ ∀ v24 : Int, v24 = (L0).getD (v23).toNat 0 → ∀ v25 : Int, v25 = v9 + (8 : Int) → (v25 < v1) ∧ ∀ v26 : Int, v26 = (L0).getD (v25).toNat 0 → ∀ v27 : Int, v27 = v9 + (9 : Int) → (v27 < v1) ∧ ∀ v28 : Int, v28 = (L0).getD (v27).toNat 0 → ∀ v29 : Int, v29 = v9 + (10 : Int) → (v29 < v1) ∧ ∀ v30 : Int, v30 = (L0).getD (v29).toNat 0 → ∀ v31 : Int, v31 = v9 + (11 : Int) → (v31 < v1) ∧ ∀ v32 : Int, v32 = (L0).getD (v31).toNat 0 → ∀ v33 : Int, v33 = v9 + (12 : Int) → (v33 < v1) ∧ ∀ v34 : Int, v34 = (L0).getD (v33).toNat 0 → ∀ v35 : Int, v35 = v9 + (13 : Int) → (v35 < v1) ∧ ∀ v36 : Int, v36 = (L0).getD (v35).toNat 0 → ∀ v37 : Int, v37 = v9 + (14 : Int) → (v37 < v1) ∧ ∀ v38 : Int, v38 = (L0).getD (v37).toNat 0 → ∀ v39 : Int, v39 = v9 + (15 : Int) → (v39 < v1) ∧ ∀ v40 : Int, v40 = (L0).getD (v39).toNat 0 → ∀ v41 : Int, v41 = v9 + (16 : Int) → (v41 < v1) ∧ ∀ v42 : Int, v42 = (L0).getD (v41).toNat 0 → ∀ v43 : Int, v43 = v9 + (17 : Int) → (v43 < v1) ∧ ∀ v44 : Int, v44 = (L0).getD (v43).toNat 0 → ∀ v45 : Int, v45 = v9 + (18 : Int) → (v45 < v1) ∧ ∀ v46 : Int, v46 = (L0).getD (v45).toNat 0 → ∀ v47 : Int, v47 = v9 + (19 : Int) → (v47 < v1) ∧ ∀ v48 : Int, v48 = (L0).getD (v47).toNat 0 → ∀ v49 : Int, v49 = v9 + (20 : Int) → (v49 < v1) ∧ ∀ v50 : Int, v50 = (L0).getD (v49).toNat 0 → ∀ v51 : Int, v51 = v9 + (21 : Int) → (v51 < v1) ∧ ∀ v52 : Int, v52 = (L0).getD (v51).toNat 0 → ∀ v53 : Int, v53 = v9 + (22 : Int) → (v53 < v1) ∧ ∀ v54 : Int, v54 = (L0).getD (v53).toNat 0 → ∀ v55 : Int, v55 = v9 + (23 : Int) → (v55 < v1) ∧ ∀ v56 : Int, v56 = (L0).getD (v55).toNat 0 → ∀ v57 : Int, v57 = v9 + (24 : Int) → (v57 < v1) ∧ ∀ v58 : Int, v58 = (L0).getD (v57).toNat 0 → ∀ v59 : Int, v59 = v9 + (25 : Int) → (v59 < v1) ∧ ∀ v60 : Int, v60 = (L0).getD (v59).toNat 0 → ∀ v61 : Int, v61 = v9 + (26 : Int) → (v61 < v1) ∧ ∀ v62 : Int, v62 = (L0).getD (v61).toNat 0 → ∀ v63 : Int, v63 = v9 + (27 : Int) → (v63 < v1) ∧ ∀ v64 : Int, v64 = (L0).getD (v63).toNat 0 → ∀ v65 : Int, v65 = v9 + (28 : Int) → (v65 < v1) ∧ ∀ v66 : Int, v66 = (L0).getD (v65).toNat 0 → ∀ v67 : Int, v67 = v9 + (29 : Int) → (v67 < v1) ∧ ∀ v68 : Int, v68 = (L0).getD (v67).toNat 0 → ∀ v69 : Int, v69 = v9 + (30 : Int) → (v69 < v1) ∧ ∀ v70 : Int, v70 = (L0).getD (v69).toNat 0 → ∀ v71 : Int, v71 = v9 + (31 : Int) → (v71 < v1) ∧ ∀ v72 : Int, v72 = (L0).getD (v71).toNat 0 → ∃ (I1 : List Int → List (List Int) → Prop) (μ1 : List Int → List (List Int) → Nat), I1 [(0 : Int), v4, v5, v6, v7] [L2] ∧
(∀ v73 : Int, ∀ v74 : Int, ∀ v75 : Int, ∀ v76 : Int, ∀ v77 : Int, ∀ L3 : List Int, I1 [v73, v74, v75, v76, v77] [L3] →
 ((v73 < (8 : Int)) → ∀ v79 : Int, v79 = v73 * (4 : Int) → ∀ v80 : Int, v80 = v79 + (4 : Int) → ∀ L4 : List Int, L4 = [v10, v12, v14, v16, v18, v20, v22, v24, v26, v28, v30, v32, v34, v36, v38, v40, v42, v44, v46, v48, v50, v52, v54, v56, v58, v60, v62, v64, v66, v68, v70, v72] → ∀ v81 : Int, v81 = (L4).getD (v79).toNat 0 → ∀ v82 : Int, v82 = v79 + (1 : Int) → ∀ v83 : Int, v83 = (L4).getD (v82).toNat 0 → ∀ v84 : Int, v84 = v79 + (2 : Int) → ∀ v85 : Int, v85 = (L4).getD (v84).toNat 0 → ∀ v86 : Int, v86 = v79 + (3 : Int) → ∀ v87 : Int, v87 = (L4).getD (v86).toNat 0 → ((v83 ≠ (0 : Int)) → ((v2 = v81) → ∀ L5 : List Int, L5 = [v3, v73] → ∀ v90 : Int, v90 = v74 + (1 : Int) → (v90 ≤ (1000000 : Int)) ∧ (v74 ≤ v75) ∧ ∀ v91 : Int, v91 = v74 * (2 : Int) → (v91 ≤ v76) ∧ ∀ v92 : Int, v92 = v75 * (2 : Int) → (v92 = v77) ∧ ∀ L6 : List Int, L6 = (L3).take (v91).toNat → ∀ L7 : List Int, L7 = L6 ++ L5 → ∀ v93 : Int, v90 ≤ v93 → v93 ≤ (9223372036854775807 : Int) → ∀ v94 : Int, v94 = v90 * (2 : Int) → ∀ v95 : Int, v95 = v93 * (2 : Int) → ∀ v96 : Int, v96 = v73 + (1 : Int) → (v94 ≤ (1000000 : Int)) ∧ (I1 [v96, v90, v93, v94, v95] [L7] ∧ μ1 [v96, v90, v93, v94, v95] [L7] < μ1 [v73, v74, v75, v76, v77] [L3])) ∧
((v2 ≠ v81) → ∀ v90 : Int, v90 = v73 + (1 : Int) → (I1 [v90, v74, v75, v76, v77] [L3] ∧ μ1 [v90, v74, v75, v76, v77] [L3] < μ1 [v73, v74, v75, v76, v77] [L3]))) ∧
((v83 = (0 : Int)) → ∀ v89 : Int, v89 = v73 + (1 : Int) → (I1 [v89, v74, v75, v76, v77] [L3] ∧ μ1 [v89, v74, v75, v76, v77] [L3] < μ1 [v73, v74, v75, v76, v77] [L3]))) ∧
(((8 : Int) ≤ v73) → ∀ v79 : Int, v79 = v3 + (1 : Int) → (I0 [v79, v74, v75, v76, v77] [L3] ∧ μ0 [v79, v74, v75, v76, v77] [L3] < μ0 [v3, v4, v5, v6, v7] [L2])))) ∧
((v0 ≤ v3) → (v4 ≤ (32 : Int)) ∧ (v6 ≤ (64 : Int)) ∧ (v7 ≤ (18446744073709551614 : Int)) ∧ Q [v4, v5, v6, v7] [L2]))) := by kernel_rfl
set_option maxHeartbeats 4000000 in
theorem cOf_holds : (L2.cOf).Holds Tryz.prog L2.ro := FSpec.holdsV (cfg := withS (L2.cfg Tryz.prog) [L2.cUnder]) [{ f := L2.f_caps_Tree_all, reg := 5, ints := [(17, 0, 4)], vecs := [(5, some (0, 7))], nils := [(5, [.i .i64], L2.t_caps_Place)], wide := [5] }, { f := L2.f_caps_Tree_all, reg := 8, ints := [(27, 0, 8)], vecs := [(5, some (0, 7))], nils := [(5, [.i .i64], L2.t_caps_Place)], wide := [5] }] 20 200 cb_ok mixed (t := cOf_t) cOf_tree (by
  show ∀ (v0 v1 v2 : Int) (L0 : List Int), _
  intro v0 v1 v2 L0 hp hr hl
  replace hr : (((1) : Int) ≤ v0 ∧ v0 ≤ ((4) : Int)) ∧ (((32) : Int) ≤ v1 ∧ v1 ≤ ((128) : Int)) ∧ (((-9223372036854775808) : Int) ≤ v2 ∧ v2 ≤ ((9223372036854775807) : Int)) ∧ True := hr
  replace hl : (∀ x ∈ L0, (((-9223372036854775808) : Int) ≤ x ∧ x ≤ ((9223372036854775807) : Int))) ∧ True := hl
  show cOf_t.dn ⟨_, []⟩ 3 [v2, v1, v0] 1 [L0]
  rw [cOf_vc]
  have hp1 : v1 = v0 * 32 := hp
  intro L1 e1
  refine ⟨fun xs ys => match xs, ys with | [i, a, c, d, s], [W] => 0 ≤ i ∧ i ≤ v0 ∧ W = selC (qOf L0 v2) i.toNat ∧ a * 2 = (W.length : Int) ∧ a ≤ c ∧ c ≤ 9223372036854775807 ∧ d = a * 2 ∧ s = c * 2 | _, _ => False, fun xs _ => match xs with | i :: _ => (v0 - i).toNat | _ => 0, ?_, ?_⟩ <;> dsimp only
  · subst e1; exact ⟨by omega, by omega, rfl, rfl, by omega, by omega, by omega, by omega⟩
  · intro i a0 c0 d0 s0 W0 hI
    obtain ⟨i0, i4', hW0, ha0, hc0, hm0, hd0, hs0⟩ := hI
    obtain ⟨m, rfl⟩ : ∃ m : Nat, i = m := ⟨i.toNat, by omega⟩
    rw [Int.toNat_natCast] at hW0
    have hsl := selC_len (qOf L0 v2) m
    rw [← hW0] at hsl
    refine ⟨fun c1 => ?_, fun c1 => ?_⟩
    rotate_left
    · have hm : m = v0.toNat := by omega
      refine ⟨by omega, by omega, by omega, (show a0 * 2 = ((ofL v0 L0 v2).length : Int) ∧ a0 ≤ c0 ∧ d0 = a0 * 2 ∧ s0 = c0 * 2 ∧ [W0] = [ofL v0 L0 v2] from by
        unfold ofL
        rw [← hm, ← hW0]
        exact ⟨ha0, hc0, hd0, hs0, rfl⟩)⟩
    clear hl
    refine ⟨c1, ?_⟩
    intro b eb
    refine ⟨by omega, ?_⟩
    intro g0 h0
    intro i1 j1
    refine ⟨by omega, ?_⟩
    intro g1 h1
    intro i2 j2
    refine ⟨by omega, ?_⟩
    intro g2 h2
    intro i3 j3
    refine ⟨by omega, ?_⟩
    intro g3 h3
    intro i4 j4
    refine ⟨by omega, ?_⟩
    intro g4 h4
    intro i5 j5
    refine ⟨by omega, ?_⟩
    intro g5 h5
    intro i6 j6
    refine ⟨by omega, ?_⟩
    intro g6 h6
    intro i7 j7
    refine ⟨by omega, ?_⟩
    intro g7 h7
    intro i8 j8
    refine ⟨by omega, ?_⟩
    intro g8 h8
    intro i9 j9
    refine ⟨by omega, ?_⟩
    intro g9 h9
    intro i10 j10
    refine ⟨by omega, ?_⟩
    intro g10 h10
    intro i11 j11
    refine ⟨by omega, ?_⟩
    intro g11 h11
    intro i12 j12
    refine ⟨by omega, ?_⟩
    intro g12 h12
    intro i13 j13
    refine ⟨by omega, ?_⟩
    intro g13 h13
    intro i14 j14
    refine ⟨by omega, ?_⟩
    intro g14 h14
    intro i15 j15
    refine ⟨by omega, ?_⟩
    intro g15 h15
    intro i16 j16
    refine ⟨by omega, ?_⟩
    intro g16 h16
    intro i17 j17
    refine ⟨by omega, ?_⟩
    intro g17 h17
    intro i18 j18
    refine ⟨by omega, ?_⟩
    intro g18 h18
    intro i19 j19
    refine ⟨by omega, ?_⟩
    intro g19 h19
    intro i20 j20
    refine ⟨by omega, ?_⟩
    intro g20 h20
    intro i21 j21
    refine ⟨by omega, ?_⟩
    intro g21 h21
    intro i22 j22
    refine ⟨by omega, ?_⟩
    intro g22 h22
    intro i23 j23
    refine ⟨by omega, ?_⟩
    intro g23 h23
    intro i24 j24
    refine ⟨by omega, ?_⟩
    intro g24 h24
    intro i25 j25
    refine ⟨by omega, ?_⟩
    intro g25 h25
    intro i26 j26
    refine ⟨by omega, ?_⟩
    intro g26 h26
    intro i27 j27
    refine ⟨by omega, ?_⟩
    intro g27 h27
    intro i28 j28
    refine ⟨by omega, ?_⟩
    intro g28 h28
    intro i29 j29
    refine ⟨by omega, ?_⟩
    intro g29 h29
    intro i30 j30
    refine ⟨by omega, ?_⟩
    intro g30 h30
    intro i31 j31
    refine ⟨by omega, ?_⟩
    intro g31 h31
    have h0' : g0 = L0.getD (b + ((0 : Nat) : Int)).toNat 0 := by rw [show b + ((0 : Nat) : Int) = b by omega]; exact h0
    have hR : [g0, g1, g2, g3, g4, g5, g6, g7, g8, g9, g10, g11, g12, g13, g14, g15, g16, g17, g18, g19, g20, g21, g22, g23, g24, g25, g26, g27, g28, g29, g30, g31] = (List.range 32).map fun (j : Nat) => L0.getD ((m : Int) * 32 + (j : Int)).toNat 0 := by
      rw [← eb, h0', h1, j1, h2, j2, h3, j3, h4, j4, h5, j5, h6, j6, h7, j7, h8, j8, h9, j9, h10, j10, h11, j11, h12, j12, h13, j13, h14, j14, h15, j15, h16, j16, h17, j17, h18, j18, h19, j19, h20, j20, h21, j21, h22, j22, h23, j23, h24, j24, h25, j25, h26, j26, h27, j27, h28, j28, h29, j29, h30, j30, h31, j31]; rfl
    clear h0 h1 j1 h2 j2 h3 j3 h4 j4 h5 j5 h6 j6 h7 j7 h8 j8 h9 j9 h10 j10 h11 j11 h12 j12 h13 j13 h14 j14 h15 j15 h16 j16 h17 j17 h18 j18 h19 j19 h20 j20 h21 j21 h22 j22 h23 j23 h24 j24 h25 j25 h26 j26 h27 j27 h28 j28 h29 j29 h30 j30 h31 j31
    refine ⟨fun xs ys => match xs, ys with | [k, a, c, d, s], [W] => 0 ≤ k ∧ k ≤ 8 ∧ W = selC (qOf L0 v2) m ++ rowC (qOf L0 v2) m k.toNat ∧ a * 2 = (W.length : Int) ∧ a ≤ c ∧ c ≤ 9223372036854775807 ∧ d = a * 2 ∧ s = c * 2 | _, _ => False, fun xs _ => match xs with | k :: _ => (8 - k).toNat | _ => 0, ?_, ?_⟩ <;> dsimp only
    · exact ⟨by omega, by omega, by rw [hW0]; simp [rowC], ha0, hc0, hm0, hd0, hs0⟩
    · intro k a c d s W hJ
      obtain ⟨k0, k8, hW, ha, hc, hmm, hd, hs⟩ := hJ
      obtain ⟨k, rfl⟩ : ∃ n : Nat, k = n := ⟨k.toNat, by omega⟩
      rw [Int.toNat_natCast] at hW
      have hrl := rowC_len (qOf L0 v2) m k
      have hWl : W.length = W0.length + (rowC (qOf L0 v2) m k).length := by rw [hW, List.length_append, ← hW0]
      refine ⟨fun c2 => ?_, fun c2 => ?_⟩
      rotate_left
      · intro i' ei'
        have hk : k = 8 := by omega
        subst hk
        refine ⟨⟨by omega, by omega, ?_, ha, hc, hmm, hd, hs⟩, by omega⟩
        rw [ei', show ((m : Int) + 1).toNat = m + 1 by omega, selC_succ]; exact hW
      intro p ep p4 ep4 R eR x0 ex0 p1 ep1 x1 ex1 p2 ep2 x2 ex2 p3 ep3 x3 ex3
      rw [hR] at eR
      have y0 : x0 = cG L0 m k 0 := by rw [ex0, ep]; have := rows_cG eR (k := k) (i := 0) (by omega) (by omega); rw [show ((k : Int) * 4 + ((0 : Nat) : Int)) = (k : Int) * 4 by omega] at this; exact this
      have y1 : x1 = cG L0 m k 1 := by rw [ex1, ep1, ep]; exact rows_cG eR (k := k) (i := 1) (by omega) (by omega)
      have y2 : x2 = cG L0 m k 2 := by rw [ex2, ep2, ep]; exact rows_cG eR (k := k) (i := 2) (by omega) (by omega)
      have y3 : x3 = cG L0 m k 3 := by rw [ex3, ep3, ep]; exact rows_cG eR (k := k) (i := 3) (by omega) (by omega)
      clear ex0 ex1 ex2 ex3 eR hR
      refine ⟨fun c3 => ⟨fun c4 => ?_, fun c4 => ?_⟩, fun c3 => ?_⟩
      · have hq : qOf L0 v2 m k = true := by unfold qOf; rw [← y1, ← y0, decide_eq_true c3, decide_eq_true c4.symm]; rfl
        intro L5 e5 a1 ea1
        refine ⟨by omega, hc, ?_⟩
        intro t et
        refine ⟨by omega, ?_⟩
        intro u eu
        refine ⟨by omega, ?_⟩
        intro L6 e6 L7 e7 c' hc1 hc2 d' ed' s' es' k' ek'
        have hL7 : L7 = W ++ [(m : Int), (k : Int)] := by rw [e7, e6, e5, List.take_of_length_le (by omega)]
        refine ⟨by omega, ⟨by omega, by omega, ?_, ?_, by omega, by omega, by omega, by omega⟩, by omega⟩
        · rw [ek', show ((k : Int) + 1).toNat = k + 1 by omega, rowC_succ, if_pos hq, hL7, hW, List.append_assoc]
        · rw [hL7, List.length_append]; simp only [List.length_cons, List.length_nil]; push_cast; omega
      · have hq : qOf L0 v2 m k = false := by unfold qOf; rw [← y1, ← y0, decide_eq_true c3, Bool.true_and]; exact decide_eq_false (fun h => c4 h.symm)
        intro k' ek'
        refine ⟨⟨by omega, by omega, ?_, ha, hc, hmm, hd, hs⟩, by omega⟩
        rw [ek', show ((k : Int) + 1).toNat = k + 1 by omega, rowC_succ, if_neg (by rw [hq]; exact Bool.false_ne_true)]; exact hW
      · have hq : qOf L0 v2 m k = false := by unfold qOf; rw [← y1, decide_eq_false (fun h => h c3), Bool.false_and]
        intro k' ek'
        refine ⟨⟨by omega, by omega, ?_, ha, hc, hmm, hd, hs⟩, by omega⟩
        rw [ek', show ((k : Int) + 1).toNat = k + 1 by omega, rowC_succ, if_neg (by rw [hq]; exact Bool.false_ne_true)]; exact hW)
noncomputable def cBelow_t : Tree := .letL (.lit []) (.loop [.c (0), .c (0), .c (0), .c (0), .c (0)] [1] (.letI (.cmp .lss (.v 4) (.v 0)) (.ite (.v 9) (.need .lss (.v 4) (.v 0) (.letI (.mul (.v 4) (.c 32)) (.need .lss (.v 10) (.v 1) (.letI (.get 0 (.v 10)) (.letI (.add (.v 10) (.c 1)) (.need .lss (.v 12) (.v 1) (.letI (.get 0 (.v 12)) (.letI (.add (.v 10) (.c 2)) (.need .lss (.v 14) (.v 1) (.letI (.get 0 (.v 14)) (.letI (.add (.v 10) (.c 3)) (.need .lss (.v 16) (.v 1) (.letI (.get 0 (.v 16)) (.letI (.add (.v 10) (.c 4)) (.need .lss (.v 18) (.v 1) (.letI (.get 0 (.v 18)) (.letI (.add (.v 10) (.c 5)) (.need .lss (.v 20) (.v 1) (.letI (.get 0 (.v 20)) (.letI (.add (.v 10) (.c 6)) (.need .lss (.v 22) (.v 1) (.letI (.get 0 (.v 22)) (.letI (.add (.v 10) (.c 7)) (.need .lss (.v 24) (.v 1) (.letI (.get 0 (.v 24)) (.letI (.add (.v 10) (.c 8)) (.need .lss (.v 26) (.v 1) (.letI (.get 0 (.v 26)) (.letI (.add (.v 10) (.c 9)) (.need .lss (.v 28) (.v 1) (.letI (.get 0 (.v 28)) (.letI (.add (.v 10) (.c 10)) (.need .lss (.v 30) (.v 1) (.letI (.get 0 (.v 30)) (.letI (.add (.v 10) (.c 11)) (.need .lss (.v 32) (.v 1) (.letI (.get 0 (.v 32)) (.letI (.add (.v 10) (.c 12)) (.need .lss (.v 34) (.v 1) (.letI (.get 0 (.v 34)) (.letI (.add (.v 10) (.c 13)) (.need .lss (.v 36) (.v 1) (.letI (.get 0 (.v 36)) (.letI (.add (.v 10) (.c 14)) (.need .lss (.v 38) (.v 1) (.letI (.get 0 (.v 38)) (.letI (.add (.v 10) (.c 15)) (.need .lss (.v 40) (.v 1) (.letI (.get 0 (.v 40)) (.letI (.add (.v 10) (.c 16)) (.need .lss (.v 42) (.v 1) (.letI (.get 0 (.v 42)) (.letI (.add (.v 10) (.c 17)) (.need .lss (.v 44) (.v 1) (.letI (.get 0 (.v 44)) (.letI (.add (.v 10) (.c 18)) (.need .lss (.v 46) (.v 1) (.letI (.get 0 (.v 46)) (.letI (.add (.v 10) (.c 19)) (.need .lss (.v 48) (.v 1) (.letI (.get 0 (.v 48)) (.letI (.add (.v 10) (.c 20)) (.need .lss (.v 50) (.v 1) (.letI (.get 0 (.v 50)) (.letI (.add (.v 10) (.c 21)) (.need .lss (.v 52) (.v 1) (.letI (.get 0 (.v 52)) (.letI (.add (.v 10) (.c 22)) (.need .lss (.v 54) (.v 1) (.letI (.get 0 (.v 54)) (.letI (.add (.v 10) (.c 23)) (.need .lss (.v 56) (.v 1) (.letI (.get 0 (.v 56)) (.letI (.add (.v 10) (.c 24)) (.need .lss (.v 58) (.v 1) (.letI (.get 0 (.v 58)) (.letI (.add (.v 10) (.c 25)) (.need .lss (.v 60) (.v 1) (.letI (.get 0 (.v 60)) (.letI (.add (.v 10) (.c 26)) (.need .lss (.v 62) (.v 1) (.letI (.get 0 (.v 62)) (.letI (.add (.v 10) (.c 27)) (.need .lss (.v 64) (.v 1) (.letI (.get 0 (.v 64)) (.letI (.add (.v 10) (.c 28)) (.need .lss (.v 66) (.v 1) (.letI (.get 0 (.v 66)) (.letI (.add (.v 10) (.c 29)) (.need .lss (.v 68) (.v 1) (.letI (.get 0 (.v 68)) (.letI (.add (.v 10) (.c 30)) (.need .lss (.v 70) (.v 1) (.letI (.get 0 (.v 70)) (.letI (.add (.v 10) (.c 31)) (.need .lss (.v 72) (.v 1) (.letI (.get 0 (.v 72)) (.loop [.c (0), .v 5, .v 6, .v 7, .v 8] [2] (.letI (.cmp .lss (.v 74) (.c 8)) (.ite (.v 79) (.letI (.mul (.v 74) (.c 4)) (.letI (.add (.v 80) (.c 4)) (.letL (.lit [.v 11, .v 13, .v 15, .v 17, .v 19, .v 21, .v 23, .v 25, .v 27, .v 29, .v 31, .v 33, .v 35, .v 37, .v 39, .v 41, .v 43, .v 45, .v 47, .v 49, .v 51, .v 53, .v 55, .v 57, .v 59, .v 61, .v 63, .v 65, .v 67, .v 69, .v 71, .v 73]) (.letI (.get 4 (.v 80)) (.letI (.add (.v 80) (.c 1)) (.letI (.get 4 (.v 83)) (.letI (.add (.v 80) (.c 2)) (.letI (.get 4 (.v 85)) (.letI (.add (.v 80) (.c 3)) (.letI (.get 4 (.v 87)) (.letI (.cmp .neq (.v 84) (.c 0)) (.ite (.v 89) (.call 60 (Go.Sx.L2.cUnder).rel [.v 0, .v 1, .v 82, .v 84, .v 86, .v 88, .v 2, .v 3] [0] 1 0 (.ite (.v 90) (.letL (.lit [.v 4, .v 74]) (.letI (.add (.v 75) (.c 1)) (.need .leq (.v 91) (.c 1000000) (.need .leq (.v 75) (.v 76) (.letI (.mul (.v 75) (.c 2)) (.need .leq (.v 92) (.v 77) (.letI (.mul (.v 76) (.c 2)) (.need .eql (.v 93) (.v 78) (.letL (.take 3 (.v 92)) (.letL (.app 6 5) (.any (.v 91) (.c 9223372036854775807) (.letI (.mul (.v 91) (.c 2)) (.letI (.mul (.v 94) (.c 2)) (.letI (.add (.v 74) (.c 1)) (.need .leq (.v 95) (.c 1000000) (.again [.v 97, .v 91, .v 94, .v 95, .v 96] [7])))))))))))))))) (.letI (.add (.v 74) (.c 1)) (.again [.v 91, .v 75, .v 76, .v 77, .v 78] [3])))) (.letI (.add (.v 74) (.c 1)) (.again [.v 90, .v 75, .v 76, .v 77, .v 78] [3])))))))))))))) (.exit (.letI (.add (.v 4) (.c 1)) (.again [.v 80, .v 75, .v 76, .v 77, .v 78] [3]))))))))))))))))))))))))))))))))))))))))))))))))))))))))))))))))))))))))))))))))))))))))))))))))))))))) (.exit (.need .leq (.v 5) (.c 32) (.need .leq (.v 7) (.c 64) (.need .leq (.v 8) (.c 18446744073709551614) (.done [.v 5, .v 6, .v 7, .v 8] [2]))))))))
theorem cBelow_tree : (L2.cBelow).exe Tryz.prog (withS (L2.cfg Tryz.prog) [L2.cUnder]) [{ f := L2.f_caps_Tree_all, reg := 5, ints := [(17, 0, 4)], vecs := [(5, some (0, 7))], nils := [(5, [.i .i64], L2.t_caps_Place)], wide := [5] }, { f := L2.f_caps_Tree_all, reg := 8, ints := [(27, 0, 8)], vecs := [(5, some (0, 7))], nils := [(5, [.i .i64], L2.t_caps_Place)], wide := [5] }] 20 200 = cBelow_t := by kernel_rfl
theorem cBelow_vc (Q : List Int → List (List Int) → Prop) (v0 v1 v2 v3 : Int) (L0 : List Int) : cBelow_t.dn ⟨Q, []⟩ 4 [v3, v2, v1, v0] 1 [L0] = (∀ L1 : List Int, L1 = [] → ∃ (I0 : List Int → List (List Int) → Prop) (μ0 : List Int → List (List Int) → Nat), I0 [(0 : Int), (0 : Int), (0 : Int), (0 : Int), (0 : Int)] [L1] ∧
(∀ v4 : Int, ∀ v5 : Int, ∀ v6 : Int, ∀ v7 : Int, ∀ v8 : Int, ∀ L2 : List Int, I0 [v4, v5, v6, v7, v8] [L2] →
 ((v4 < v0) → (v4 < v0) ∧ ∀ v10 : Int, v10 = v4 * (32 : Int) → (v10 < v1) ∧ ∀ v11 : Int, v11 = (L0).getD (v10).toNat 0 → ∀ v12 : Int, v12 = v10 + (1 : Int) → (v12 < v1) ∧ ∀ v13 : Int, v13 = (L0).getD (v12).toNat 0 → ∀ v14 : Int, v14 = v10 + (2 : Int) → (v14 < v1) ∧ ∀ v15 : Int, v15 = (L0).getD (v14).toNat 0 → ∀ v16 : Int, v16 = v10 + (3 : Int) → (v16 < v1) ∧ ∀ v17 : Int, v17 = (L0).getD (v16).toNat 0 → ∀ v18 : Int, v18 = v10 + (4 : Int) → (v18 < v1) ∧ ∀ v19 : Int, v19 = (L0).getD (v18).toNat 0 → ∀ v20 : Int, v20 = v10 + (5 : Int) → (v20 < v1) ∧ ∀ v21 : Int, v21 = (L0).getD (v20).toNat 0 → ∀ v22 : Int, v22 = v10 + (6 : Int) → (v22 < v1) ∧ ∀ v23 : Int, v23 = (L0).getD (v22).toNat 0 → ∀ v24 : Int, v24 = v10 + (7 : Int) → (v24 < v1) ∧ ∀ v25 : Int, v25 = (L0).getD (v24).toNat 0 → ∀ v26 : Int, v26 = v10 + (8 : Int) → (v26 < v1) ∧ ∀ v27 : Int, v27 = (L0).getD (v26).toNat 0 → ∀ v28 : Int, v28 = v10 + (9 : Int) → (v28 < v1) ∧ ∀ v29 : Int, v29 = (L0).getD (v28).toNat 0 → ∀ v30 : Int, v30 = v10 + (10 : Int) → (v30 < v1) ∧ ∀ v31 : Int, v31 = (L0).getD (v30).toNat 0 → ∀ v32 : Int, v32 = v10 + (11 : Int) → (v32 < v1) ∧ ∀ v33 : Int, v33 = (L0).getD (v32).toNat 0 → ∀ v34 : Int, v34 = v10 + (12 : Int) → (v34 < v1) ∧ ∀ v35 : Int, v35 = (L0).getD (v34).toNat 0 → ∀ v36 : Int, v36 = v10 + (13 : Int) → (v36 < v1) ∧ ∀ v37 : Int, v37 = (L0).getD (v36).toNat 0 → ∀ v38 : Int, v38 = v10 + (14 : Int) → (v38 < v1) ∧ ∀ v39 : Int, v39 = (L0).getD (v38).toNat 0 → ∀ v40 : Int, v40 = v10 + (15 : Int) → (v40 < v1) ∧ ∀ v41 : Int, v41 = (L0).getD (v40).toNat 0 → ∀ v42 : Int, v42 = v10 + (16 : Int) → (v42 < v1) ∧ ∀ v43 : Int, v43 = (L0).getD (v42).toNat 0 → ∀ v44 : Int, v44 = v10 + (17 : Int) → (v44 < v1) ∧ ∀ v45 : Int, v45 = (L0).getD (v44).toNat 0 → ∀ v46 : Int, v46 = v10 + (18 : Int) → (v46 < v1) ∧ ∀ v47 : Int, v47 = (L0).getD (v46).toNat 0 → ∀ v48 : Int, v48 = v10 + (19 : Int) → (v48 < v1) ∧ ∀ v49 : Int, v49 = (L0).getD (v48).toNat 0 → ∀ v50 : Int, v50 = v10 + (20 : Int) → (v50 < v1) ∧ ∀ v51 : Int, v51 = (L0).getD (v50).toNat 0 → ∀ v52 : Int, v52 = v10 + (21 : Int) → (v52 < v1) ∧ ∀ v53 : Int, v53 = (L0).getD (v52).toNat 0 → ∀ v54 : Int, v54 = v10 + (22 : Int) → (v54 < v1) ∧ ∀ v55 : Int, v55 = (L0).getD (v54).toNat 0 → ∀ v56 : Int, v56 = v10 + (23 : Int) → (v56 < v1) ∧ ∀ v57 : Int, v57 = (L0).getD (v56).toNat 0 → ∀ v58 : Int, v58 = v10 + (24 : Int) → (v58 < v1) ∧ ∀ v59 : Int, v59 = (L0).getD (v58).toNat 0 → ∀ v60 : Int, v60 = v10 + (25 : Int) → (v60 < v1) ∧ ∀ v61 : Int, v61 = (L0).getD (v60).toNat 0 → ∀ v62 : Int, v62 = v10 + (26 : Int) → (v62 < v1) ∧ ∀ v63 : Int, v63 = (L0).getD (v62).toNat 0 → ∀ v64 : Int, v64 = v10 + (27 : Int) → (v64 < v1) ∧ ∀ v65 : Int, v65 = (L0).getD (v64).toNat 0 → ∀ v66 : Int, v66 = v10 + (28 : Int) → (v66 < v1) ∧ ∀ v67 : Int, v67 = (L0).getD (v66).toNat 0 → ∀ v68 : Int, v68 = v10 + (29 : Int) → (v68 < v1) ∧ ∀ v69 : Int, v69 = (L0).getD (v68).toNat 0 → ∀ v70 : Int, v70 = v10 + (30 : Int) → (v70 < v1) ∧ ∀ v71 : Int, v71 = (L0).getD (v70).toNat 0 → ∀ v72 : Int, v72 = v10 + (31 : Int) → (v72 < v1) ∧ ∀ v73 : Int, v73 = (L0).getD (v72).toNat 0 → ∃ (I1 : List Int → List (List Int) → Prop) (μ1 : List Int → List (List Int) → Nat), I1 [(0 : Int), v5, v6, v7, v8] [L2] ∧
(∀ v74 : Int, ∀ v75 : Int, ∀ v76 : Int, ∀ v77 : Int, ∀ v78 : Int, ∀ L3 : List Int, I1 [v74, v75, v76, v77, v78] [L3] →
 ((v74 < (8 : Int)) → ∀ v80 : Int, v80 = v74 * (4 : Int) → ∀ v81 : Int, v81 = v80 + (4 : Int) → ∀ L4 : List Int, L4 = [v11, v13, v15, v17, v19, v21, v23, v25, v27, v29, v31, v33, v35, v37, v39, v41, v43, v45, v47, v49, v51, v53, v55, v57, v59, v61, v63, v65, v67, v69, v71, v73] → ∀ v82 : Int, v82 = (L4).getD (v80).toNat 0 → ∀ v83 : Int, v83 = v80 + (1 : Int) → ∀ v84 : Int, v84 = (L4).getD (v83).toNat 0 → ∀ v85 : Int, v85 = v80 + (2 : Int) → ∀ v86 : Int, v86 = (L4).getD (v85).toNat 0 → ∀ v87 : Int, v87 = v80 + (3 : Int) → ∀ v88 : Int, v88 = (L4).getD (v87).toNat 0 → ((v84 ≠ (0 : Int)) → (Go.Sx.L2.cUnder).rel.pre [v0, v1, v82, v84, v86, v88, v2, v3] [L0] ∧
(∀ v90 : Int, (Go.Sx.L2.cUnder).rel.post [v0, v1, v82, v84, v86, v88, v2, v3] [L0] [v90] [] → (v90 ≠ 0 → ∀ L5 : List Int, L5 = [v4, v74] → ∀ v91 : Int, v91 = v75 + (1 : Int) → (v91 ≤ (1000000 : Int)) ∧ (v75 ≤ v76) ∧ ∀ v92 : Int, v92 = v75 * (2 : Int) → (v92 ≤ v77) ∧ ∀ v93 : Int, v93 = v76 * (2 : Int) → (v93 = v78) ∧ ∀ L6 : List Int, L6 = (L3).take (v92).toNat → ∀ L7 : List Int, L7 = L6 ++ L5 → ∀ v94 : Int, v91 ≤ v94 → v94 ≤ (9223372036854775807 : Int) → ∀ v95 : Int, v95 = v91 * (2 : Int) → ∀ v96 : Int, v96 = v94 * (2 : Int) → ∀ v97 : Int, v97 = v74 + (1 : Int) → (v95 ≤ (1000000 : Int)) ∧ (I1 [v97, v91, v94, v95, v96] [L7] ∧ μ1 [v97, v91, v94, v95, v96] [L7] < μ1 [v74, v75, v76, v77, v78] [L3])) ∧
(v90 = 0 → ∀ v91 : Int, v91 = v74 + (1 : Int) → (I1 [v91, v75, v76, v77, v78] [L3] ∧ μ1 [v91, v75, v76, v77, v78] [L3] < μ1 [v74, v75, v76, v77, v78] [L3])))) ∧
((v84 = (0 : Int)) → ∀ v90 : Int, v90 = v74 + (1 : Int) → (I1 [v90, v75, v76, v77, v78] [L3] ∧ μ1 [v90, v75, v76, v77, v78] [L3] < μ1 [v74, v75, v76, v77, v78] [L3]))) ∧
(((8 : Int) ≤ v74) → ∀ v80 : Int, v80 = v4 + (1 : Int) → (I0 [v80, v75, v76, v77, v78] [L3] ∧ μ0 [v80, v75, v76, v77, v78] [L3] < μ0 [v4, v5, v6, v7, v8] [L2])))) ∧
((v0 ≤ v4) → (v5 ≤ (32 : Int)) ∧ (v7 ≤ (64 : Int)) ∧ (v8 ≤ (18446744073709551614 : Int)) ∧ Q [v5, v6, v7, v8] [L2]))) := by kernel_rfl
set_option maxHeartbeats 4000000 in
theorem cBelow_holds : (L2.cBelow).Holds Tryz.prog L2.ro := FSpec.holdsV (cfg := withS (L2.cfg Tryz.prog) [L2.cUnder]) [{ f := L2.f_caps_Tree_all, reg := 5, ints := [(17, 0, 4)], vecs := [(5, some (0, 7))], nils := [(5, [.i .i64], L2.t_caps_Place)], wide := [5] }, { f := L2.f_caps_Tree_all, reg := 8, ints := [(27, 0, 8)], vecs := [(5, some (0, 7))], nils := [(5, [.i .i64], L2.t_caps_Place)], wide := [5] }] 20 200 cb_ok mixed (t := cBelow_t) cBelow_tree (by
  show ∀ (v0 v1 v2 v3 : Int) (L0 : List Int), _
  intro v0 v1 v2 v3 L0 hp hr hl
  replace hr : (((1) : Int) ≤ v0 ∧ v0 ≤ ((4) : Int)) ∧ (((32) : Int) ≤ v1 ∧ v1 ≤ ((128) : Int)) ∧ (((-9223372036854775808) : Int) ≤ v2 ∧ v2 ≤ ((9223372036854775807) : Int)) ∧ (((-9223372036854775808) : Int) ≤ v3 ∧ v3 ≤ ((9223372036854775807) : Int)) ∧ True := hr
  replace hl : (∀ x ∈ L0, (((-9223372036854775808) : Int) ≤ x ∧ x ≤ ((9223372036854775807) : Int))) ∧ True := hl
  show cBelow_t.dn ⟨_, []⟩ 4 [v3, v2, v1, v0] 1 [L0]
  rw [cBelow_vc]
  have hp1 : v1 = v0 * 32 ∧ CV v0 L0 := hp
  obtain ⟨hp1, hcv⟩ := hp1
  intro L1 e1
  refine ⟨fun xs ys => match xs, ys with | [i, a, c, d, s], [W] => 0 ≤ i ∧ i ≤ v0 ∧ W = selC (qBelow L0 v2 v3) i.toNat ∧ a * 2 = (W.length : Int) ∧ a ≤ c ∧ c ≤ 9223372036854775807 ∧ d = a * 2 ∧ s = c * 2 | _, _ => False, fun xs _ => match xs with | i :: _ => (v0 - i).toNat | _ => 0, ?_, ?_⟩ <;> dsimp only
  · subst e1; exact ⟨by omega, by omega, rfl, rfl, by omega, by omega, by omega, by omega⟩
  · intro i a0 c0 d0 s0 W0 hI
    obtain ⟨i0, i4', hW0, ha0, hc0, hm0, hd0, hs0⟩ := hI
    obtain ⟨m, rfl⟩ : ∃ m : Nat, i = m := ⟨i.toNat, by omega⟩
    rw [Int.toNat_natCast] at hW0
    have hsl := selC_len (qBelow L0 v2 v3) m
    rw [← hW0] at hsl
    refine ⟨fun c1 => ?_, fun c1 => ?_⟩
    rotate_left
    · have hm : m = v0.toNat := by omega
      refine ⟨by omega, by omega, by omega, (show a0 * 2 = ((belowL v0 L0 v2 v3).length : Int) ∧ a0 ≤ c0 ∧ d0 = a0 * 2 ∧ s0 = c0 * 2 ∧ [W0] = [belowL v0 L0 v2 v3] from by
        unfold belowL
        rw [← hm, ← hW0]
        exact ⟨ha0, hc0, hd0, hs0, rfl⟩)⟩
    clear hl
    refine ⟨c1, ?_⟩
    intro b eb
    refine ⟨by omega, ?_⟩
    intro g0 h0
    intro i1 j1
    refine ⟨by omega, ?_⟩
    intro g1 h1
    intro i2 j2
    refine ⟨by omega, ?_⟩
    intro g2 h2
    intro i3 j3
    refine ⟨by omega, ?_⟩
    intro g3 h3
    intro i4 j4
    refine ⟨by omega, ?_⟩
    intro g4 h4
    intro i5 j5
    refine ⟨by omega, ?_⟩
    intro g5 h5
    intro i6 j6
    refine ⟨by omega, ?_⟩
    intro g6 h6
    intro i7 j7
    refine ⟨by omega, ?_⟩
    intro g7 h7
    intro i8 j8
    refine ⟨by omega, ?_⟩
    intro g8 h8
    intro i9 j9
    refine ⟨by omega, ?_⟩
    intro g9 h9
    intro i10 j10
    refine ⟨by omega, ?_⟩
    intro g10 h10
    intro i11 j11
    refine ⟨by omega, ?_⟩
    intro g11 h11
    intro i12 j12
    refine ⟨by omega, ?_⟩
    intro g12 h12
    intro i13 j13
    refine ⟨by omega, ?_⟩
    intro g13 h13
    intro i14 j14
    refine ⟨by omega, ?_⟩
    intro g14 h14
    intro i15 j15
    refine ⟨by omega, ?_⟩
    intro g15 h15
    intro i16 j16
    refine ⟨by omega, ?_⟩
    intro g16 h16
    intro i17 j17
    refine ⟨by omega, ?_⟩
    intro g17 h17
    intro i18 j18
    refine ⟨by omega, ?_⟩
    intro g18 h18
    intro i19 j19
    refine ⟨by omega, ?_⟩
    intro g19 h19
    intro i20 j20
    refine ⟨by omega, ?_⟩
    intro g20 h20
    intro i21 j21
    refine ⟨by omega, ?_⟩
    intro g21 h21
    intro i22 j22
    refine ⟨by omega, ?_⟩
    intro g22 h22
    intro i23 j23
    refine ⟨by omega, ?_⟩
    intro g23 h23
    intro i24 j24
    refine ⟨by omega, ?_⟩
    intro g24 h24
    intro i25 j25
    refine ⟨by omega, ?_⟩
    intro g25 h25
    intro i26 j26
    refine ⟨by omega, ?_⟩
    intro g26 h26
    intro i27 j27
    refine ⟨by omega, ?_⟩
    intro g27 h27
    intro i28 j28
    refine ⟨by omega, ?_⟩
    intro g28 h28
    intro i29 j29
    refine ⟨by omega, ?_⟩
    intro g29 h29
    intro i30 j30
    refine ⟨by omega, ?_⟩
    intro g30 h30
    intro i31 j31
    refine ⟨by omega, ?_⟩
    intro g31 h31
    have h0' : g0 = L0.getD (b + ((0 : Nat) : Int)).toNat 0 := by rw [show b + ((0 : Nat) : Int) = b by omega]; exact h0
    have hR : [g0, g1, g2, g3, g4, g5, g6, g7, g8, g9, g10, g11, g12, g13, g14, g15, g16, g17, g18, g19, g20, g21, g22, g23, g24, g25, g26, g27, g28, g29, g30, g31] = (List.range 32).map fun (j : Nat) => L0.getD ((m : Int) * 32 + (j : Int)).toNat 0 := by
      rw [← eb, h0', h1, j1, h2, j2, h3, j3, h4, j4, h5, j5, h6, j6, h7, j7, h8, j8, h9, j9, h10, j10, h11, j11, h12, j12, h13, j13, h14, j14, h15, j15, h16, j16, h17, j17, h18, j18, h19, j19, h20, j20, h21, j21, h22, j22, h23, j23, h24, j24, h25, j25, h26, j26, h27, j27, h28, j28, h29, j29, h30, j30, h31, j31]; rfl
    clear h0 h1 j1 h2 j2 h3 j3 h4 j4 h5 j5 h6 j6 h7 j7 h8 j8 h9 j9 h10 j10 h11 j11 h12 j12 h13 j13 h14 j14 h15 j15 h16 j16 h17 j17 h18 j18 h19 j19 h20 j20 h21 j21 h22 j22 h23 j23 h24 j24 h25 j25 h26 j26 h27 j27 h28 j28 h29 j29 h30 j30 h31 j31
    refine ⟨fun xs ys => match xs, ys with | [k, a, c, d, s], [W] => 0 ≤ k ∧ k ≤ 8 ∧ W = selC (qBelow L0 v2 v3) m ++ rowC (qBelow L0 v2 v3) m k.toNat ∧ a * 2 = (W.length : Int) ∧ a ≤ c ∧ c ≤ 9223372036854775807 ∧ d = a * 2 ∧ s = c * 2 | _, _ => False, fun xs _ => match xs with | k :: _ => (8 - k).toNat | _ => 0, ?_, ?_⟩ <;> dsimp only
    · exact ⟨by omega, by omega, by rw [hW0]; simp [rowC], ha0, hc0, hm0, hd0, hs0⟩
    · intro k a c d s W hJ
      obtain ⟨k0, k8, hW, ha, hc, hmm, hd, hs⟩ := hJ
      obtain ⟨k, rfl⟩ : ∃ n : Nat, k = n := ⟨k.toNat, by omega⟩
      rw [Int.toNat_natCast] at hW
      have hrl := rowC_len (qBelow L0 v2 v3) m k
      have hWl : W.length = W0.length + (rowC (qBelow L0 v2 v3) m k).length := by rw [hW, List.length_append, ← hW0]
      refine ⟨fun c2 => ?_, fun c2 => ?_⟩
      rotate_left
      · intro i' ei'
        have hk : k = 8 := by omega
        subst hk
        refine ⟨⟨by omega, by omega, ?_, ha, hc, hmm, hd, hs⟩, by omega⟩
        rw [ei', show ((m : Int) + 1).toNat = m + 1 by omega, selC_succ]; exact hW
      intro p ep p4 ep4 R eR x0 ex0 p1 ep1 x1 ex1 p2 ep2 x2 ex2 p3 ep3 x3 ex3
      rw [hR] at eR
      have y0 : x0 = cG L0 m k 0 := by rw [ex0, ep]; have := rows_cG eR (k := k) (i := 0) (by omega) (by omega); rw [show ((k : Int) * 4 + ((0 : Nat) : Int)) = (k : Int) * 4 by omega] at this; exact this
      have y1 : x1 = cG L0 m k 1 := by rw [ex1, ep1, ep]; exact rows_cG eR (k := k) (i := 1) (by omega) (by omega)
      have y2 : x2 = cG L0 m k 2 := by rw [ex2, ep2, ep]; exact rows_cG eR (k := k) (i := 2) (by omega) (by omega)
      have y3 : x3 = cG L0 m k 3 := by rw [ex3, ep3, ep]; exact rows_cG eR (k := k) (i := 3) (by omega) (by omega)
      clear ex0 ex1 ex2 ex3 eR hR
      refine ⟨fun c3 => ⟨?_, ?_⟩, fun c3 => ?_⟩
      · refine ⟨⟨hp1, hcv⟩, ?_, ?_⟩
        · show x1 ≠ 0 → 0 ≤ x2 → x2 < v0 ∧ 0 ≤ x3 ∧ x3 < 8
          rw [y1, y2, y3]; exact hcv.par m k (by omega) c1 (by omega) c2
        · show endC L0 33 x1 x2 x3 = true
          rw [y1, y2, y3]; exact hcv.ends m k (by omega) c1 (by omega) c2
      · intro w hw
        have hw : w = b2i (undC L0 v2 v3 33 x1 x2 x3) := by
          have : [w] = [b2i (undC L0 v2 v3 33 x1 x2 x3)] := hw.1
          simpa using this
        have hqq : qBelow L0 v2 v3 m k = undC L0 v2 v3 33 x1 x2 x3 := by unfold qBelow; rw [← y1, ← y2, ← y3, decide_eq_true c3, Bool.true_and]
        refine ⟨fun c4 => ?_, fun c4 => ?_⟩
        · have hq : qBelow L0 v2 v3 m k = true := by
            rw [hqq]
            cases hu : undC L0 v2 v3 33 x1 x2 x3 with
            | true => rfl
            | false => rw [hu] at hw; exact absurd hw c4
          intro L5 e5 a1 ea1
          refine ⟨by omega, hc, ?_⟩
          intro t et
          refine ⟨by omega, ?_⟩
          intro u eu
          refine ⟨by omega, ?_⟩
          intro L6 e6 L7 e7 c' hc1 hc2 d' ed' s' es' k' ek'
          have hL7 : L7 = W ++ [(m : Int), (k : Int)] := by rw [e7, e6, e5, List.take_of_length_le (by omega)]
          refine ⟨by omega, ⟨by omega, by omega, ?_, ?_, by omega, by omega, by omega, by omega⟩, by omega⟩
          · rw [ek', show ((k : Int) + 1).toNat = k + 1 by omega, rowC_succ, if_pos hq, hL7, hW, List.append_assoc]
          · rw [hL7, List.length_append]; simp only [List.length_cons, List.length_nil]; push_cast; omega
        · have hq : qBelow L0 v2 v3 m k = false := by
            rw [hqq]
            cases hu : undC L0 v2 v3 33 x1 x2 x3 with
            | false => rfl
            | true => rw [hu, c4] at hw; cases hw
          intro k' ek'
          refine ⟨⟨by omega, by omega, ?_, ha, hc, hmm, hd, hs⟩, by omega⟩
          rw [ek', show ((k : Int) + 1).toNat = k + 1 by omega, rowC_succ, if_neg (by rw [hq]; exact Bool.false_ne_true)]; exact hW
      · have hq : qBelow L0 v2 v3 m k = false := by unfold qBelow; rw [← y1, decide_eq_false (fun h => h c3), Bool.false_and]
        intro k' ek'
        refine ⟨⟨by omega, by omega, ?_, ha, hc, hmm, hd, hs⟩, by omega⟩
        rw [ek', show ((k : Int) + 1).toNat = k + 1 by omega, rowC_succ, if_neg (by rw [hq]; exact Bool.false_ne_true)]; exact hW)
end Go.Proofs.YtpmgfdakljjlaaaGreatDoor
