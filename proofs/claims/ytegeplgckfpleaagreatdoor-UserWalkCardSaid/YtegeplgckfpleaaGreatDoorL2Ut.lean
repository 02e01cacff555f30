/- The end of UserWalk: what is found ahead of a walk, the walk, what is found behind it. (Its proposition is the printed meaning of the law's tree.) -/
import Derived.Test.YtegeplgckfpleaaGreatDoorL2U
set_option linter.unusedVariables false
set_option linter.unusedSimpArgs false
namespace Go.Sx
set_option maxHeartbeats 4000000 in
theorem userWalk_tail {L_ T_ : List Int} (hW : WB L_) (hT : TV T_) (k_ : Int) {e_ p_ : Int} (he : 0 ≤ e_ ∧ e_ < 4) (hpg : 0 ≤ p_ ∧ p_ < 8) {q : Prop} (hq : q) :
    (Go.Sx.L2.bFind).rel.pre [e_, p_] [L_] ∧
(∀ v11 : Int, ∀ v12 : Int, ∀ v13 : Int, ∀ v14 : Int, ∀ v15 : Int, (Go.Sx.L2.bFind).rel.post [e_, p_] [L_] [v11, v12, v13, v14, v15] [] → (Go.Sx.L2.tAt).rel.pre [p_] [T_] ∧
(∀ v16 : Int, ∀ v17 : Int, ∀ v18 : Int, ∀ v19 : Int, (Go.Sx.L2.tAt).rel.post [p_] [T_] [v16, v17, v18, v19] [] → (Go.Sx.L2.uWalk).rel.pre [e_, p_, k_] [L_, T_] ∧
(∀ v20 : Int, ∀ v21 : Int, ∀ v22 : Int, ∀ v23 : Int, ∀ v24 : Int, ∀ L4 : List Int, (Go.Sx.L2.uWalk).rel.post [e_, p_, k_] [L_, T_] [v20, v21, v22, v23, v24] [L4] → (Go.Sx.L2.bFind).rel.pre [e_, p_] [L4] ∧
(∀ v25 : Int, ∀ v26 : Int, ∀ v27 : Int, ∀ v28 : Int, ∀ v29 : Int, (Go.Sx.L2.bFind).rel.post [e_, p_] [L4] [v25, v26, v27, v28, v29] [] → (v15 ≠ 0 → (Go.Sx.L2.lets_ Go.Sx.L2.f_messuageref2_Lets).rel.pre [v14, k_] [] ∧
(∀ v30 : Int, (Go.Sx.L2.lets_ Go.Sx.L2.f_messuageref2_Lets).rel.post [v14, k_] [] [v30] [] → (v30 ≠ 0 → (v24 ≠ 0 → ∀ v31 : Int, v31 = b2i (v11 == v20) → ∀ v32 : Int, v32 = b2i (v12 == v21) → ∀ v33 : Int, v33 = b2i (v13 == v22) → ∀ v34 : Int, v34 = b2i (v14 == v23) → ∀ v35 : Int, v35 = (if v34 = 0 then (0 : Int) else (1 : Int)) → ∀ v36 : Int, v36 = (if v33 = 0 then (0 : Int) else v35) → ∀ v37 : Int, v37 = (if v32 = 0 then (0 : Int) else v36) → ∀ v38 : Int, v38 = (if v31 = 0 then (0 : Int) else v37) → (v38 ≠ 0 → (v29 ≠ 0 → ∀ v39 : Int, v39 = b2i (v11 == v25) → ∀ v40 : Int, v40 = b2i (v12 == v26) → ∀ v41 : Int, v41 = b2i (v13 == v27) → ∀ v42 : Int, v42 = b2i (v14 == v28) → ∀ v43 : Int, v43 = (if v42 = 0 then (0 : Int) else (1 : Int)) → ∀ v44 : Int, v44 = (if v41 = 0 then (0 : Int) else v43) → ∀ v45 : Int, v45 = (if v40 = 0 then (0 : Int) else v44) → ∀ v46 : Int, v46 = (if v39 = 0 then (0 : Int) else v45) → (v46 ≠ (0 : Int)) ∧ q) ∧
(v29 = 0 → False)) ∧
(v38 = 0 → False)) ∧
(v24 = 0 → False)) ∧
(v30 = 0 → (v19 ≠ 0 → (Go.Sx.L2.lets_ Go.Sx.L2.f_messuageref2_Lets).rel.pre [v18, k_] [] ∧
(∀ v31 : Int, (Go.Sx.L2.lets_ Go.Sx.L2.f_messuageref2_Lets).rel.post [v18, k_] [] [v31] [] → (v31 ≠ 0 → (v24 ≠ 0 → (v29 ≠ 0 → ∀ v32 : Int, v32 = b2i (v20 == v25) → ∀ v33 : Int, v33 = b2i (v21 == v26) → ∀ v34 : Int, v34 = b2i (v22 == v27) → ∀ v35 : Int, v35 = b2i (v23 == v28) → ∀ v36 : Int, v36 = (if v35 = 0 then (0 : Int) else (1 : Int)) → ∀ v37 : Int, v37 = (if v34 = 0 then (0 : Int) else v36) → ∀ v38 : Int, v38 = (if v33 = 0 then (0 : Int) else v37) → ∀ v39 : Int, v39 = (if v32 = 0 then (0 : Int) else v38) → (v39 ≠ 0 → ∀ v40 : Int, v40 = b2i (e_ == v20) → ∀ v41 : Int, v41 = b2i (p_ == v21) → ∀ v42 : Int, v42 = b2i (v16 == v22) → ∀ v43 : Int, v43 = b2i (v18 == v23) → ∀ v44 : Int, v44 = (if v43 = 0 then (0 : Int) else (1 : Int)) → ∀ v45 : Int, v45 = (if v42 = 0 then (0 : Int) else v44) → ∀ v46 : Int, v46 = (if v41 = 0 then (0 : Int) else v45) → ∀ v47 : Int, v47 = (if v40 = 0 then (0 : Int) else v46) → (v47 ≠ (0 : Int)) ∧ q) ∧
(v39 = 0 → False)) ∧
(v29 = 0 → False)) ∧
(v24 = 0 → False)) ∧
(v31 = 0 → ∀ v32 : Int, v32 = b2i (v24 == 0) → (v32 ≠ 0 → ∀ v33 : Int, v33 = b2i (v20 == (0 : Int)) → ∀ v34 : Int, v34 = b2i (v21 == (0 : Int)) → ∀ v35 : Int, v35 = b2i (v22 == (0 : Int)) → ∀ v36 : Int, v36 = b2i (v23 == (0 : Int)) → ∀ v37 : Int, v37 = (if v36 = 0 then (0 : Int) else (1 : Int)) → ∀ v38 : Int, v38 = (if v35 = 0 then (0 : Int) else v37) → ∀ v39 : Int, v39 = (if v34 = 0 then (0 : Int) else v38) → ∀ v40 : Int, v40 = (if v33 = 0 then (0 : Int) else v39) → (v40 ≠ 0 → ∀ v41 : Int, v41 = b2i (v29 == 0) → (v41 ≠ (0 : Int)) ∧ q) ∧
(v40 = 0 → False)) ∧
(v32 = 0 → False)))) ∧
(v19 = 0 → ∀ v31 : Int, v31 = b2i (v24 == 0) → (v31 ≠ 0 → ∀ v32 : Int, v32 = b2i (v20 == (0 : Int)) → ∀ v33 : Int, v33 = b2i (v21 == (0 : Int)) → ∀ v34 : Int, v34 = b2i (v22 == (0 : Int)) → ∀ v35 : Int, v35 = b2i (v23 == (0 : Int)) → ∀ v36 : Int, v36 = (if v35 = 0 then (0 : Int) else (1 : Int)) → ∀ v37 : Int, v37 = (if v34 = 0 then (0 : Int) else v36) → ∀ v38 : Int, v38 = (if v33 = 0 then (0 : Int) else v37) → ∀ v39 : Int, v39 = (if v32 = 0 then (0 : Int) else v38) → (v39 ≠ 0 → ∀ v40 : Int, v40 = b2i (v29 == 0) → (v40 ≠ (0 : Int)) ∧ q) ∧
(v39 = 0 → False)) ∧
(v31 = 0 → False))))) ∧
(v15 = 0 → (v19 ≠ 0 → (Go.Sx.L2.lets_ Go.Sx.L2.f_messuageref2_Lets).rel.pre [v18, k_] [] ∧
(∀ v30 : Int, (Go.Sx.L2.lets_ Go.Sx.L2.f_messuageref2_Lets).rel.post [v18, k_] [] [v30] [] → (v30 ≠ 0 → (v24 ≠ 0 → (v29 ≠ 0 → ∀ v31 : Int, v31 = b2i (v20 == v25) → ∀ v32 : Int, v32 = b2i (v21 == v26) → ∀ v33 : Int, v33 = b2i (v22 == v27) → ∀ v34 : Int, v34 = b2i (v23 == v28) → ∀ v35 : Int, v35 = (if v34 = 0 then (0 : Int) else (1 : Int)) → ∀ v36 : Int, v36 = (if v33 = 0 then (0 : Int) else v35) → ∀ v37 : Int, v37 = (if v32 = 0 then (0 : Int) else v36) → ∀ v38 : Int, v38 = (if v31 = 0 then (0 : Int) else v37) → (v38 ≠ 0 → ∀ v39 : Int, v39 = b2i (e_ == v20) → ∀ v40 : Int, v40 = b2i (p_ == v21) → ∀ v41 : Int, v41 = b2i (v16 == v22) → ∀ v42 : Int, v42 = b2i (v18 == v23) → ∀ v43 : Int, v43 = (if v42 = 0 then (0 : Int) else (1 : Int)) → ∀ v44 : Int, v44 = (if v41 = 0 then (0 : Int) else v43) → ∀ v45 : Int, v45 = (if v40 = 0 then (0 : Int) else v44) → ∀ v46 : Int, v46 = (if v39 = 0 then (0 : Int) else v45) → (v46 ≠ (0 : Int)) ∧ q) ∧
(v38 = 0 → False)) ∧
(v29 = 0 → False)) ∧
(v24 = 0 → False)) ∧
(v30 = 0 → ∀ v31 : Int, v31 = b2i (v24 == 0) → (v31 ≠ 0 → ∀ v32 : Int, v32 = b2i (v20 == (0 : Int)) → ∀ v33 : Int, v33 = b2i (v21 == (0 : Int)) → ∀ v34 : Int, v34 = b2i (v22 == (0 : Int)) → ∀ v35 : Int, v35 = b2i (v23 == (0 : Int)) → ∀ v36 : Int, v36 = (if v35 = 0 then (0 : Int) else (1 : Int)) → ∀ v37 : Int, v37 = (if v34 = 0 then (0 : Int) else v36) → ∀ v38 : Int, v38 = (if v33 = 0 then (0 : Int) else v37) → ∀ v39 : Int, v39 = (if v32 = 0 then (0 : Int) else v38) → (v39 ≠ 0 → ∀ v40 : Int, v40 = b2i (v29 == 0) → (v40 ≠ (0 : Int)) ∧ q) ∧
(v39 = 0 → False)) ∧
(v31 = 0 → False)))) ∧
(v19 = 0 → ∀ v30 : Int, v30 = b2i (v24 == 0) → (v30 ≠ 0 → ∀ v31 : Int, v31 = b2i (v20 == (0 : Int)) → ∀ v32 : Int, v32 = b2i (v21 == (0 : Int)) → ∀ v33 : Int, v33 = b2i (v22 == (0 : Int)) → ∀ v34 : Int, v34 = b2i (v23 == (0 : Int)) → ∀ v35 : Int, v35 = (if v34 = 0 then (0 : Int) else (1 : Int)) → ∀ v36 : Int, v36 = (if v33 = 0 then (0 : Int) else v35) → ∀ v37 : Int, v37 = (if v32 = 0 then (0 : Int) else v36) → ∀ v38 : Int, v38 = (if v31 = 0 then (0 : Int) else v37) → (v38 ≠ 0 → ∀ v39 : Int, v39 = b2i (v29 == 0) → (v39 ≠ (0 : Int)) ∧ q) ∧
(v38 = 0 → False)) ∧
(v30 = 0 → False))))))) := by
  have K := walk_cases hW hT k_ he.1 he.2 hpg.1 hpg.2
  refine ⟨trivial, fun a0 a1 a2 a3 had ha => ⟨trivial, fun t0 t1 t2 there ht => ⟨trivial, fun w0 w1 w2 w3 wok L' hw => ⟨trivial, fun b0 b1 b2 b3 has hb => ?_⟩⟩⟩⟩
  have ha : [a0, a1, a2, a3, had] = [findB L_ e_ p_ 0, findB L_ e_ p_ 1, findB L_ e_ p_ 2, findB L_ e_ p_ 3, b2i (decide (atB L_ e_ p_ ≠ -1))] := ha
  have ht : [t0, t1, t2, there] = [atV T_ p_ 0, atV T_ p_ 1, atV T_ p_ 2, b2i (atOk T_ p_)] := ht.1
  have hL : L' = walkB L_ T_ e_ p_ k_ := by
    have : [L'] = [walkB L_ T_ e_ p_ k_] := hw.2
    simpa using this
  have hw : [w0, w1, w2, w3, wok] = [walkV L_ T_ e_ p_ k_ 0, walkV L_ T_ e_ p_ k_ 1, walkV L_ T_ e_ p_ k_ 2, walkV L_ T_ e_ p_ k_ 3, b2i (walkOk L_ T_ e_ p_ k_)] := hw.1
  have hb : [b0, b1, b2, b3, has] = [findB L' e_ p_ 0, findB L' e_ p_ 1, findB L' e_ p_ 2, findB L' e_ p_ 3, b2i (decide (atB L' e_ p_ ≠ -1))] := hb
  simp only [List.cons.injEq, and_true] at ha ht hw hb
  obtain ⟨ha0, ha1, ha2, ha3, ha4⟩ := ha
  obtain ⟨ht0, ht1, ht2, ht4⟩ := ht
  obtain ⟨hw0, hw1, hw2, hw3, hw4⟩ := hw
  obtain ⟨hb0, hb1, hb2, hb3, hb4⟩ := hb
  rw [hL] at hb0 hb1 hb2 hb3 hb4
  clear hL
  unfold hitW tabW at K
  rw [← ha3, ← ht2, ← ht0] at K
  have key : (had = 1 ∧ letsB a3 k_ = true ∧ wok = 1 ∧ w0 = a0 ∧ w1 = a1 ∧ w2 = a2 ∧ w3 = a3 ∧ has = 1 ∧ b0 = a0 ∧ b1 = a1 ∧ b2 = a2 ∧ b3 = a3) ∨
      ((had = 0 ∨ (had = 1 ∧ letsB a3 k_ = false)) ∧ there = 1 ∧ letsB t2 k_ = true ∧ wok = 1 ∧ w0 = e_ ∧ w1 = p_ ∧ w2 = t0 ∧ w3 = t2 ∧ has = 1 ∧ b0 = e_ ∧ b1 = p_ ∧ b2 = t0 ∧ b3 = t2) ∨
      ((had = 0 ∨ (had = 1 ∧ letsB a3 k_ = false)) ∧ (there = 0 ∨ there = 1) ∧ letsB t2 k_ = false ∧ wok = 0 ∧ w0 = 0 ∧ w1 = 0 ∧ w2 = 0 ∧ w3 = 0 ∧ has = 0) := by
    have hcase : had = 0 ∧ atB L_ e_ p_ = -1 ∨ had = 1 ∧ atB L_ e_ p_ ≠ -1 := by
      rw [ha4]
      by_cases c : atB L_ e_ p_ = -1
      · left; simp [c, b2i]
      · right; simp [c, b2i]
    have no : (decide (atB L_ e_ p_ ≠ -1) && letsB a3 k_) = false → had = 0 ∨ (had = 1 ∧ letsB a3 k_ = false) := by
      intro h
      rcases hcase with c | c
      · exact .inl c.1
      · right
        refine ⟨c.1, ?_⟩
        rw [decide_eq_true c.2, Bool.true_and] at h
        exact h
    rcases K with ⟨k1, k2, k3, k4⟩ | ⟨k1, k2, k3, k4, k5, k6, k7, k8, _, _, _, k9, k10, k11, k12, k13⟩ | ⟨k1, k2, k3, k4, _, k5⟩
    · left
      simp only [Bool.and_eq_true, decide_eq_true_eq] at k1
      have h4 : had = 1 := by rw [ha4, decide_eq_true k1.1]; rfl
      have e0 : walkV L_ T_ e_ p_ k_ 0 = findB L_ e_ p_ 0 := k4 0
      have e1 : walkV L_ T_ e_ p_ k_ 1 = findB L_ e_ p_ 1 := k4 1
      have e2 : walkV L_ T_ e_ p_ k_ 2 = findB L_ e_ p_ 2 := k4 2
      have e3 : walkV L_ T_ e_ p_ k_ 3 = findB L_ e_ p_ 3 := k4 3
      rw [k3] at hb0 hb1 hb2 hb3 hb4
      exact ⟨h4, k1.2, by rw [hw4, k2]; rfl, by rw [hw0, e0, ha0], by rw [hw1, e1, ha1], by rw [hw2, e2, ha2], by rw [hw3, e3, ha3], by rw [hb4, ← ha4, h4], by rw [hb0, ha0], by rw [hb1, ha1], by rw [hb2, ha2], by rw [hb3, ha3]⟩
    · right; left
      exact ⟨no k1, by rw [ht4, k4]; rfl, k2, by rw [hw4, k3]; rfl, by rw [hw0, k5], by rw [hw1, k6], by rw [hw2, k7], by rw [hw3, k8], by rw [hb4, decide_eq_true k9]; rfl, by rw [hb0, k10], by rw [hb1, k11], by rw [hb2, k12], by rw [hb3, k13]⟩
    · right; right
      have z := fun i => k4 i
      refine ⟨no k1, ?_, k2, by rw [hw4, k3]; rfl, by rw [hw0, z 0], by rw [hw1, z 1], by rw [hw2, z 2], by rw [hw3, z 3], by rw [hb4, decide_eq_false (fun c => c k5)]; rfl⟩
      rw [ht4]; cases atOk T_ p_ <;> simp [b2i]
  clear K ha0 ha1 ha2 ha3 ha4 ht0 ht1 ht2 ht4 hw0 hw1 hw2 hw3 hw4 hb0 hb1 hb2 hb3 hb4 hW hT he hpg
  simp only [fnSpec_post, fnSpec_pre, true_and, List.cons.injEq, and_true, List.getD_cons_zero, List.getD_cons_succ, and_imp, forall_eq, b2i_zero, b2i_eq, ne_eq, Bool.not_eq_false, Bool.not_eq_true', Bool.not_eq_false', decide_eq_true_eq, decide_eq_false_iff_not, Int.not_lt, Int.not_le]
  rcases key with ⟨rfl, kl, rfl, rfl, rfl, rfl, rfl, rfl, rfl, rfl, rfl, rfl⟩ | ⟨kh, rfl, kl, rfl, rfl, rfl, rfl, rfl, rfl, rfl, rfl, rfl, rfl⟩ | ⟨kh, kt, kl, rfl, rfl, rfl, rfl, rfl, rfl⟩
  · simp [kl, b2i, hq]
  · rcases kh with rfl | ⟨rfl, kh⟩
    · simp [kl, b2i, hq]
    · simp [kl, kh, b2i, hq]
  · rcases kh with rfl | ⟨rfl, kh⟩ <;> rcases kt with rfl | rfl
    · simp [kl, b2i, hq]
    · simp [kl, b2i, hq]
    · simp [kl, kh, b2i, hq]
    · simp [kl, kh, b2i, hq]
end Go.Sx
