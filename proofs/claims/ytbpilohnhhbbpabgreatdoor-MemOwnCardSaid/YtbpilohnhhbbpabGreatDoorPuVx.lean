/- Buffers and tables of a few entries: what the loads and stores of UserKinds, UserMore and UserStale find. -/
import Derived.Test.YtbpilohnhhbbpabGreatDoorPuV
set_option linter.unusedVariables false
set_option linter.constructorNameAsVariable false
namespace Go.Sx
abbrev b0 : List Int := clearB (List.replicate 41 0)
abbrev t0 : List Int := List.replicate 24 0
/-! UserKinds -/
def kT : List Int := insL t0 0 0 0 3
def kB1 : List Int := fillB b0 0 0 0 3
theorem k_facts : ∀ k : Nat, k < 4 → (walkOk b0 kT 0 0 ((k : Int) + 20) = true ∧ walkV b0 kT 0 0 ((k : Int) + 20) 2 = 0 ∧ walkV b0 kT 0 0 ((k : Int) + 20) 3 = 3 ∧ walkB b0 kT 0 0 ((k : Int) + 20) = kB1) ∧
    (walkOk kB1 kT 0 0 ((k : Int) + 20) = true ∧ walkV kB1 kT 0 0 ((k : Int) + 20) 2 = 0 ∧ walkV kB1 kT 0 0 ((k : Int) + 20) 3 = 3 ∧ walkB kB1 kT 0 0 ((k : Int) + 20) = kB1) := by decide +kernel
theorem k_walk {B : List Int} (hB : B = b0 ∨ B = kB1) {k : Int} (h1 : 20 ≤ k) (h2 : k ≤ 23) : walkOk B kT 0 0 k = true ∧ walkV B kT 0 0 k 2 = 0 ∧ walkV B kT 0 0 k 3 = 3 ∧ walkB B kT 0 0 k = kB1 := by
  have := k_facts (k - 20).toNat (by omega)
  rw [show (((k - 20).toNat : Nat) : Int) + 20 = k by omega] at this
  rcases hB with rfl | rfl
  · exact this.1
  · exact this.2
/-! UserMore -/
def mrB (p r : Nat) : List Int := fillB b0 1 p 0 ((r : Int) + 1)
def mrT (p s : Nat) : List Int := insL t0 p 1 0 ((s : Int) + 1)
def mrOk (p r s k : Nat) : Bool :=
  let B := mrB p r; let T := mrT p s; let q := (k : Int) + 20; let B' := walkB B T 1 p q
  if letsB ((r : Int) + 1) q then walkOk B T 1 p q && (decide (walkV B T 1 p q 2 = 0) && decide (walkV B T 1 p q 3 = (r : Int) + 1))
  else if letsB ((s : Int) + 1) q then walkOk B T 1 p q && (decide (walkV B T 1 p q 0 = 1 ∧ walkV B T 1 p q 1 = p ∧ walkV B T 1 p q 2 = 1 ∧ walkV B T 1 p q 3 = (s : Int) + 1) && (decide (atB B' 1 p ≠ -1) &&
    decide (findB B' 1 p 0 = 1 ∧ findB B' 1 p 1 = p ∧ findB B' 1 p 2 = 1 ∧ findB B' 1 p 3 = (s : Int) + 1)))
  else !walkOk B T 1 p q && decide (atB B' 1 p = -1)
theorem mr_all : ∀ p, p < 8 → ∀ r, r < 3 → ∀ s, s < 3 → ∀ k, k < 4 → mrOk p r s k = true := by decide +kernel
/-! UserStale -/
def stT (p : Nat) : List Int := insL t0 p 2 1 3
def stT' (p : Nat) : List Int := remL (stT p) p
def stB1 (e p : Nat) : List Int := walkB b0 (stT p) e p 21
def stB2 (e p : Nat) : List Int := walkB (stB1 e p) (stT' p) e p 20
def stB3 (e p : Nat) : List Int := walkB (stB2 e p) (stT' p) (((e : Int) + 1).tmod 4) p 20
def stB4 (e p : Nat) : List Int := flushB (stB3 e p) e p
def stOk (e p : Nat) : Bool :=
  decide (insE t0 p 2 1 3 = 0) && (walkOk b0 (stT p) e p 21 && (decide (walkV b0 (stT p) e p 21 0 = e ∧ walkV b0 (stT p) e p 21 1 = p ∧ walkV b0 (stT p) e p 21 2 = 2 ∧ walkV b0 (stT p) e p 21 3 = 3) &&
  (walkOk (stB1 e p) (stT' p) e p 20 && (decide (walkV (stB1 e p) (stT' p) e p 20 0 = e ∧ walkV (stB1 e p) (stT' p) e p 20 1 = p ∧ walkV (stB1 e p) (stT' p) e p 20 2 = 2 ∧ walkV (stB1 e p) (stT' p) e p 20 3 = 3) &&
  (!walkOk (stB2 e p) (stT' p) (((e : Int) + 1).tmod 4) p 20 && !walkOk (stB4 e p) (stT' p) e p 20)))))
theorem st_all : ∀ e, e < 4 → ∀ p, p < 8 → stOk e p = true := by decide +kernel
/-! One word of a frame -/
theorem getD_set_same {M : List Int} {a : Nat} {y : Int} (h : a < M.length) : (M.set a y).getD a 0 = y := by
  rw [List.getD_eq_getElem?_getD, List.getElem?_set_self h]; rfl
/-- A load, a store of the fifth word of the one frame. -/
theorem k_touch {M : List Int} {x k c3 c4 : Int} (hl : M.length = 16) (hx : M.getD 4 0 = x) (hk : k = 20 ∨ k = 21 ∨ k = 22 ∨ k = 23) :
    touchV [M] 1 0 k 4 = (if k = 21 then 0 else x) ∧ (touchL [M] 1 0 k 4 c3 c4 0).length = 16 ∧
    (touchL [M] 1 0 k 4 c3 c4 0).getD 4 0 = (if k = 21 then c3 else if k = 22 then (if x = c3 then c4 else x) else if k = 23 then IntKind.wrap .u64 (x + c3) else x) := by
  have hin : inM 1 0 4 = true := by decide
  have hm : ([M] : List (List Int)).getD 0 [] = M := rfl
  have h0 : ((0 : Int)).toNat = 0 := rfl
  have h4 : ((4 : Int)).toNat = 4 := rfl
  have hc : inM 1 0 4 = true ∧ (0 : Int) = ((0 : Nat) : Int) := ⟨hin, rfl⟩
  unfold touchV touchL wordM
  simp only [hm, h0, h4, hx, if_pos hin, if_pos hc]
  have hx' : M[4]?.getD 0 = x := by rw [← List.getD_eq_getElem?_getD]; exact hx
  rcases hk with rfl | rfl | rfl | rfl
  · refine ⟨by simp, by simp [hl], ?_⟩
    simp only [show ¬ ((20 : Int) = 21) by decide, show ¬ ((20 : Int) = 22) by decide, show ¬ ((20 : Int) = 23) by decide, if_false]
    exact hx
  · simp [hl]
  · by_cases c : x = c3
    · simp [c, hl]
    · refine ⟨by simp, by simp [if_neg c, hl], ?_⟩
      simp only [show ¬ ((22 : Int) = 21) by decide, if_true, if_neg c, if_false]
      exact hx
  · simp [hl]
theorem touchL_len {Ls : List (List Int)} {K f c0 a c3 c4 : Int} {j : Nat} : (touchL Ls K f c0 a c3 c4 j).length = (Ls.getD j []).length := by
  unfold touchL
  dsimp only
  repeat' split
  all_goals simp
theorem doM_len {B T : List Int} {Ls : List (List Int)} {K env c0 c1 c2 c3 c4 : Int} {j : Nat} : (doM B T Ls K env c0 c1 c2 c3 c4 j).length = (Ls.getD j []).length := by
  unfold doM
  split
  · exact touchL_len
  · rfl
structure StSt (e p : Nat) : Prop where
  ins : insE t0 p 2 1 3 = 0
  ok1 : walkOk b0 (stT p) e p 21 = true
  v1 : walkV b0 (stT p) e p 21 0 = e ∧ walkV b0 (stT p) e p 21 1 = p ∧ walkV b0 (stT p) e p 21 2 = 2 ∧ walkV b0 (stT p) e p 21 3 = 3
  ok2 : walkOk (stB1 e p) (stT' p) e p 20 = true
  v2 : walkV (stB1 e p) (stT' p) e p 20 0 = e ∧ walkV (stB1 e p) (stT' p) e p 20 1 = p ∧ walkV (stB1 e p) (stT' p) e p 20 2 = 2 ∧ walkV (stB1 e p) (stT' p) e p 20 3 = 3
  no3 : walkOk (stB2 e p) (stT' p) (((e : Int) + 1).tmod 4) p 20 = false
  no4 : walkOk (stB4 e p) (stT' p) e p 20 = false
theorem st_st {e p : Nat} (he : e < 4) (hp : p < 8) : StSt e p := by
  have h := st_all e he p hp
  simp only [stOk, Bool.and_eq_true, decide_eq_true_eq, Bool.not_eq_true'] at h
  obtain ⟨h1, h2, h3, h4, h5, h6, h7⟩ := h
  exact ⟨h1, h2, h3, h4, h5, h6, h7⟩
/-- A store in the third of three frames, a load of it. -/
theorem st_store {M0 M1 M2 : List Int} {a : Nat} {v : Int} : touchL [M0, M1, M2] 3 2 21 a v 0 2 = if a < 16 then M2.set a v else M2 := by
  unfold touchL
  have hm : ([M0, M1, M2] : List (List Int)).getD 2 [] = M2 := rfl
  simp only [hm]
  by_cases h : a < 16
  · rw [if_pos h, if_pos (by refine ⟨?_, rfl⟩; simp [inM]; omega)]
    simp
  · rw [if_neg h, if_neg (by intro c; have := c.1; simp [inM] at this; omega)]
theorem st_load {M0 M1 M2 : List Int} {a : Nat} (h : a < 16) : touchV [M0, M1, M2] 3 2 20 a = M2.getD a 0 := by
  unfold touchV wordM
  rw [if_pos (.inl rfl), if_pos (by simp [inM]; omega)]
  rfl
end Go.Sx
