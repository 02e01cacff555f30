/- Contract: a derivation, by the law. -/
import Derived.Test.YtpmgfdakljjlaaaGreatDoorL2Kp
import Derived.Test.YtpmgfdakljjlaaaGreatDoorL2Facts
import Derived.Test.YtpmgfdakljjlaaaGreatDoorSxM7
import Derived.Test.YtpmgfdakljjlaaaGreatDoorL2S
import Derived.Test.YtpmgfdakljjlaaaGreatDoorPuZ
set_option linter.unusedVariables false
set_option linter.constructorNameAsVariable false
set_option linter.unusedSimpArgs false
open Go Go.Sx
namespace Go.Proofs.YtpmgfdakljjlaaaGreatDoor
set_option maxRecDepth 100000
theorem qg_ok : (withS (L2.cfg Tryz.prog) [L2.within_ L2.f_messuageref2_Within]).Ok Tryz.prog := withS_ok cfg_ok ⟨rWithin_holds, trivial⟩
noncomputable def lDer_t : Tree := .letI (.not (.v 8)) (.ite (.v 9) (.done [.c (2)] [0]) (.letI (.cmp .lss (.v 4) (.c 0)) (.ite (.v 10) (.done [.c (2)] [0]) (.letI (.cmp .leq (.v 0) (.v 4)) (.ite (.v 11) (.done [.c (2)] [0]) (.letI (.cmp .lss (.v 5) (.c 0)) (.ite (.v 12) (.done [.c (2)] [0]) (.letI (.cmp .leq (.c 8) (.v 5)) (.ite (.v 13) (.done [.c (2)] [0]) (.letI (.cmp .leq (.c 1) (.v 6)) (.ite (.v 14) (.letI (.cmp .leq (.v 6) (.c 3)) (.letI (.not (.v 15)) (.ite (.v 16) (.done [.c (2)] [0]) (.need .geq (.v 2) (.c 0) (.need .lss (.v 2) (.c 4) (.letI (.mul (.v 2) (.c 40)) (.letI (.add (.c 3) (.v 17)) (.need .geq (.v 3) (.c 0) (.need .lss (.v 3) (.c 8) (.letI (.mul (.v 3) (.c 5)) (.letI (.add (.v 18) (.v 19)) (.letI (.get 0 (.v 20)) (.letI (.add (.v 20) (.c 1)) (.letI (.get 0 (.v 22)) (.letI (.add (.v 20) (.c 2)) (.letI (.get 0 (.v 24)) (.letI (.add (.v 20) (.c 3)) (.letI (.get 0 (.v 26)) (.letI (.add (.v 20) (.c 4)) (.letI (.get 0 (.v 28)) (.letI (.not (.v 21)) (.ite (.v 30) (.done [.c (3)] [0]) (.letI (.mul (.v 4) (.c 40)) (.letI (.add (.c 3) (.v 31)) (.letI (.mul (.v 5) (.c 5)) (.letI (.add (.v 32) (.v 33)) (.letI (.get 0 (.v 34)) (.ite (.v 35) (.done [.c (4)] [0]) (.need .leq (.v 25) (.c 9223372036854775807) (.call 53 (Go.Sx.L2.within_ Go.Sx.L2.f_messuageref2_Within).rel [.v 6, .v 25] [] 1 0 (.letI (.not (.v 36)) (.ite (.v 37) (.done [.c (5)] [0]) (.letL (.set 0 (.v 34) (.c 1)) (.letI (.add (.v 34) (.c 1)) (.letL (.set 1 (.v 38) (.v 23)) (.letI (.add (.v 34) (.c 2)) (.letL (.set 2 (.v 39) (.v 6)) (.letI (.add (.v 34) (.c 3)) (.letL (.set 3 (.v 40) (.v 2)) (.letI (.add (.v 34) (.c 4)) (.letL (.set 4 (.v 41) (.v 3)) (.done [.c (0)] [5])))))))))))))))))))))))))))))))))))))))))) (.done [.c (2)] [0]))))))))))))
theorem lDer_tree : (L2.lDer).exe Tryz.prog (withS (L2.cfg Tryz.prog) [L2.within_ L2.f_messuageref2_Within]) [] 20 200 = lDer_t := by kernel_rfl
theorem lDer_vc (Q : List Int → List (List Int) → Prop) (v0 v1 v2 v3 v4 v5 v6 v7 v8 : Int) (L0 : List Int) : lDer_t.dn ⟨Q, []⟩ 9 [v8, v7, v6, v5, v4, v3, v2, v1, v0] 1 [L0] = (∀ v9 : Int, v9 = b2i (v8 == 0) → (v9 ≠ 0 → Q [(2 : Int)] [L0]) ∧
(v9 = 0 → ((v4 < (0 : Int)) → Q [(2 : Int)] [L0]) ∧
(((0 : Int) ≤ v4) → ((v0 ≤ v4) → Q [(2 : Int)] [L0]) ∧
((v4 < v0) → ((v5 < (0 : Int)) → Q [(2 : Int)] [L0]) ∧
(((0 : Int) ≤ v5) → (((8 : Int) ≤ v5) → Q [(2 : Int)] [L0]) ∧
((v5 < (8 : Int)) → (((1 : Int) ≤ v6) → ∀ v15 : Int, v15 = b2i (decide (v6 ≤ (3 : Int))) → ∀ v16 : Int, v16 = b2i (v15 == 0) → (v16 ≠ 0 → Q [(2 : Int)] [L0]) ∧
(v16 = 0 → ((0 : Int) ≤ v2) ∧ (v2 < (4 : Int)) ∧ ∀ v17 : Int, v17 = v2 * (40 : Int) → ∀ v18 : Int, v18 = (3 : Int) + v17 → ((0 : Int) ≤ v3) ∧ (v3 < (8 : Int)) ∧ ∀ v19 : Int, v19 = v3 * (5 : Int) → ∀ v20 : Int, v20 = v18 + v19 → ∀ v21 : Int, v21 = (L0).getD (v20).toNat 0 → ∀ v22 : Int, v22 = v20 + (1 : Int) → ∀ v23 : Int, v23 = (L0).getD (v22).toNat 0 → ∀ v24 : Int, v24 = v20 + (2 : Int) → ∀ v25 : Int, v25 = (L0).getD (v24).toNat 0 → ∀ v26 : Int, v26 = v20 + (3 : Int) → ∀ v27 : Int, v27 = (L0).getD (v26).toNat 0 → ∀ v28 : Int, v28 = v20 + (4 : Int) → ∀ v29 : Int, v29 = (L0).getD (v28).toNat 0 → ∀ v30 : Int, v30 = b2i (v21 == 0) → (v30 ≠ 0 → Q [(3 : Int)] [L0]) ∧
(v30 = 0 → ∀ v31 : Int, v31 = v4 * (40 : Int) → ∀ v32 : Int, v32 = (3 : Int) + v31 → ∀ v33 : Int, v33 = v5 * (5 : Int) → ∀ v34 : Int, v34 = v32 + v33 → ∀ v35 : Int, v35 = (L0).getD (v34).toNat 0 → (v35 ≠ 0 → Q [(4 : Int)] [L0]) ∧
(v35 = 0 → (v25 ≤ (9223372036854775807 : Int)) ∧ (Go.Sx.L2.within_ Go.Sx.L2.f_messuageref2_Within).rel.pre [v6, v25] [] ∧
(∀ v36 : Int, (Go.Sx.L2.within_ Go.Sx.L2.f_messuageref2_Within).rel.post [v6, v25] [] [v36] [] → ∀ v37 : Int, v37 = b2i (v36 == 0) → (v37 ≠ 0 → Q [(5 : Int)] [L0]) ∧
(v37 = 0 → ∀ L1 : List Int, L1 = (L0).set (v34).toNat (1 : Int) → ∀ v38 : Int, v38 = v34 + (1 : Int) → ∀ L2 : List Int, L2 = (L1).set (v38).toNat v23 → ∀ v39 : Int, v39 = v34 + (2 : Int) → ∀ L3 : List Int, L3 = (L2).set (v39).toNat v6 → ∀ v40 : Int, v40 = v34 + (3 : Int) → ∀ L4 : List Int, L4 = (L3).set (v40).toNat v2 → ∀ v41 : Int, v41 = v34 + (4 : Int) → ∀ L5 : List Int, L5 = (L4).set (v41).toNat v3 → Q [(0 : Int)] [L5])))))) ∧
((v6 < (1 : Int)) → Q [(2 : Int)] [L0]))))))) := by kernel_rfl
set_option maxHeartbeats 4000000 in
theorem lDer_holds : (L2.lDer).Holds Tryz.prog L2.ro := FSpec.holdsV (cfg := withS (L2.cfg Tryz.prog) [L2.within_ L2.f_messuageref2_Within]) [] 20 200 qg_ok mixed (t := lDer_t) lDer_tree (by
  show ∀ (v0 v1 v2 v3 v4 v5 v6 v7 v8 : Int) (L0 : List Int), _
  intro v0 v1 v2 v3 v4 v5 v6 v7 v8 L0 hp hr hl
  replace hr : (((1) : Int) ≤ v0 ∧ v0 ≤ ((4) : Int)) ∧ (((-9223372036854775808) : Int) ≤ v1 ∧ v1 ≤ ((9223372036854775807) : Int)) ∧ (((-9223372036854775808) : Int) ≤ v2 ∧ v2 ≤ ((9223372036854775807) : Int)) ∧ (((-9223372036854775808) : Int) ≤ v3 ∧ v3 ≤ ((9223372036854775807) : Int)) ∧ (((-9223372036854775808) : Int) ≤ v4 ∧ v4 ≤ ((9223372036854775807) : Int)) ∧ (((-9223372036854775808) : Int) ≤ v5 ∧ v5 ≤ ((9223372036854775807) : Int)) ∧ (((-9223372036854775808) : Int) ≤ v6 ∧ v6 ≤ ((9223372036854775807) : Int)) ∧ (((-9223372036854775808) : Int) ≤ v7 ∧ v7 ≤ ((9223372036854775807) : Int)) ∧ (((0) : Int) ≤ v8 ∧ v8 ≤ ((1) : Int)) ∧ True := hr
  replace hl : (∀ x ∈ L0, (((-9223372036854775808) : Int) ≤ x ∧ x ≤ ((18446744073709551615) : Int))) ∧ True := hl
  show lDer_t.dn ⟨_, []⟩ 9 [v8, v7, v6, v5, v4, v3, v2, v1, v0] 1 [L0]
  rw [lDer_vc]
  obtain ⟨h8, T0, hT0, hk0⟩ := hp
  have h8 : v8 = b2i (plOk v0 v2 v3) := h8
  have hT0 : (T0.length : Int) = v0 * 32 := hT0
  have hk0 : KT T0 L0 := hk0
  clear hl
  have two : (plOk v0 v2 v3 = false ∨ plOk v0 v4 v5 = false ∨ rightsB v6 = false) → ∀ T : List Int, (T.length : Int) = v0 * 32 → KT T L0 → [(2 : Int)] = [derE v0 T v2 v3 v4 v5 v6] ∧ KT (derL v0 T v2 v3 v4 v5 v6) L0 := by
    intro h T _ hk
    have hE : derE v0 T v2 v3 v4 v5 v6 = 2 := by
      unfold derE
      rw [if_pos]
      rcases h with h | h | h <;> simp [h]
    have hL : derL v0 T v2 v3 v4 v5 v6 = T := by unfold derL; rw [hE]; rfl
    rw [hE, hL]; exact ⟨rfl, hk⟩
  intro x9 e9
  refine ⟨fun c => two (.inl ?_), fun c => ?_⟩
  · cases h : plOk v0 v2 v3 with
    | false => rfl
    | true => rw [h] at h8; rw [e9, h8] at c; exact absurd c (by decide)
  have p1 : plOk v0 v2 v3 = true := by
    cases h : plOk v0 v2 v3 with
    | true => rfl
    | false => rw [h] at h8; rw [e9, h8] at c; exact absurd c (by decide)
  clear c e9
  have p1' : 0 ≤ v2 ∧ v2 < v0 ∧ 0 ≤ v3 ∧ v3 < 8 := by
    simp only [plOk, Bool.and_eq_true, decide_eq_true_eq] at p1; omega
  refine ⟨fun c => two (.inr (.inl (by simp [plOk]; omega))), fun c1 => ⟨fun c => two (.inr (.inl (by simp [plOk]; omega))), fun c2 => ⟨fun c => two (.inr (.inl (by simp [plOk]; omega))), fun c3 => ⟨fun c => two (.inr (.inl (by simp [plOk]; omega))), fun c4 => ⟨fun c5 => ?_, fun c => two (.inr (.inr (by simp [rightsB]; omega)))⟩⟩⟩⟩⟩
  have p2 : plOk v0 v4 v5 = true := by simp [plOk]; omega
  intro x15 e15 x16 e16
  refine ⟨fun c => two (.inr (.inr ?_)), fun c => ?_⟩
  · have : ¬ v6 ≤ 3 := fun h => by rw [e16, e15] at c; simp [h, b2i] at c
    simp [rightsB]; omega
  have c6 : v6 ≤ 3 := by
    by_cases h : v6 ≤ 3
    · exact h
    · rw [e16, e15] at c; simp [h, b2i] at c
  clear c e15 e16
  have rb : rightsB v6 = true := by simp [rightsB]; omega
  refine ⟨by omega, by omega, fun y1 g1 y2 g2 => ⟨by omega, by omega, fun y3 g3 i gi w0 f0 j1 i1 w1 f1 j2 i2 w2 f2 j3 i3 w3 f3 j4 i4 w4 f4 z ez => ?_⟩⟩
  rw [i1] at f1
  rw [i2] at f2
  rw [i3] at f3
  rw [i4] at f4
  have rd : ∀ T, KT T L0 → w0 = b2i (decide (cG T v2 v3 1 ≠ 0)) ∧ w1 = cG T v2 v3 0 ∧ w2 = cG T v2 v3 1 := fun T h => by
    have := h.rd (a := v2) (b := v3) (i := i) (by omega) (by omega) (by omega) (by omega) (by omega)
    rw [← f0, ← f1, ← f2] at this
    exact ⟨this.1, this.2.1, this.2.2.1⟩
  have hE : ∀ T, KT T L0 → derE v0 T v2 v3 v4 v5 v6 = if w2 = 0 then 3 else if cG T v4 v5 1 ≠ 0 then 4 else if !withinB v6 w2 then 5 else 0 := fun T h => by
    obtain ⟨r0, r1, r2⟩ := rd T h
    unfold derE
    rw [p1, p2, rb, ← r2]
    simp
  have hL : ∀ T, derE v0 T v2 v3 v4 v5 v6 ≠ 0 → derL v0 T v2 v3 v4 v5 v6 = T := fun T h => by unfold derL; rw [if_neg h]
  have hw2 : w2 ≤ 3 := by
    obtain ⟨r0, r1, r2⟩ := rd T0 hk0
    have := hk0.rt v2.toNat v3.toNat (by omega) (by omega)
    rw [show ((v2.toNat : Nat) : Int) = v2 by omega, show ((v3.toNat : Nat) : Int) = v3 by omega] at this
    omega
  have hw0 : w0 = b2i (decide (w2 ≠ 0)) := by
    obtain ⟨r0, r1, r2⟩ := rd T0 hk0
    rw [r2]; exact r0
  clear f0 f1 f2 f3 f4
  refine ⟨fun c T hT hk => ?_, fun c u1 m1 u2 m2 u3 m3 k mk t0 n0 => ?_⟩
  · have h2 : w2 = 0 := by
      by_cases h : w2 = 0
      · exact h
      · rw [ez, hw0] at c; simp [h, b2i] at c
    have e := hE T hk
    rw [if_pos h2] at e
    show [(3 : Int)] = [derE v0 T v2 v3 v4 v5 v6] ∧ KT (derL v0 T v2 v3 v4 v5 v6) L0
    rw [hL T (by rw [e]; decide), e]; exact ⟨rfl, hk⟩
  have h2 : w2 ≠ 0 := fun h => by rw [ez, hw0] at c; simp [h, b2i] at c
  have rt : ∀ T, KT T L0 → t0 = b2i (decide (cG T v4 v5 1 ≠ 0)) := fun T h => by
    have := h.rd (a := v4) (b := v5) (i := k) (by omega) (by omega) (by omega) (by omega) (by omega)
    rw [← n0] at this
    exact this.1
  clear n0
  refine ⟨fun c T hT hk => ?_, fun c => ⟨by omega, trivial, fun a qa na ena => ⟨fun d T hT hk => ?_, fun d A1 E1 s1 S1 A2 E2 s2 S2 A3 E3 s3 S3 A4 E4 s4 S4 A5 E5 T hT hk => ?_⟩⟩⟩
  · have h4 : cG T v4 v5 1 ≠ 0 := fun h => c (by rw [rt T hk]; simp [h, b2i])
    have e := hE T hk
    rw [if_neg h2, if_pos h4] at e
    show [(4 : Int)] = [derE v0 T v2 v3 v4 v5 v6] ∧ KT (derL v0 T v2 v3 v4 v5 v6) L0
    rw [hL T (by rw [e]; decide), e]; exact ⟨rfl, hk⟩
  · have h4 : cG T v4 v5 1 = 0 := by
      by_cases h : cG T v4 v5 1 = 0
      · exact h
      · have := rt T hk; rw [c] at this; simp [h, b2i] at this
    have ha : a = b2i (withinB v6 w2) := (List.cons.inj qa).1
    have hw : withinB v6 w2 = false := by
      cases h : withinB v6 w2 with
      | false => rfl
      | true => rw [h] at ha; rw [ena, ha] at d; exact absurd d (by decide)
    have e := hE T hk
    rw [if_neg h2, if_neg (by simpa using h4), hw, if_pos (by decide)] at e
    show [(5 : Int)] = [derE v0 T v2 v3 v4 v5 v6] ∧ KT (derL v0 T v2 v3 v4 v5 v6) L0
    rw [hL T (by rw [e]; decide), e]; exact ⟨rfl, hk⟩
  · have h4 : cG T v4 v5 1 = 0 := by
      by_cases h : cG T v4 v5 1 = 0
      · exact h
      · have := rt T hk; rw [c] at this; simp [h, b2i] at this
    have ha : a = b2i (withinB v6 w2) := (List.cons.inj qa).1
    have hw : withinB v6 w2 = true := by
      cases h : withinB v6 w2 with
      | true => rfl
      | false => rw [h] at ha; rw [ena, ha] at d; exact absurd d (by decide)
    have e := hE T hk
    rw [if_neg h2, if_neg (by simpa using h4), hw, if_neg (by decide)] at e
    obtain ⟨r0, r1, r2⟩ := rd T hk
    have hA : A5 = set5 L0 k 1 w1 v6 v2 v3 := by
      unfold set5
      rw [E5, E4, E3, E2, E1, S1, S2, S3, S4]
    show [(0 : Int)] = [derE v0 T v2 v3 v4 v5 v6] ∧ KT (derL v0 T v2 v3 v4 v5 v6) A5
    have hDL : derL v0 T v2 v3 v4 v5 v6 = cSet T v4 v5 w1 v6 v2 v3 := by unfold derL; rw [if_pos e, r1]
    rw [e, hDL, hA]
    refine ⟨rfl, hk.set (n := v0) hT (by omega) (by omega) (by omega) (by omega) (by omega) (by omega) ?_ c6⟩
    have : v6 ≠ 0 := by omega
    simp [this, b2i])
end Go.Proofs.YtpmgfdakljjlaaaGreatDoor
