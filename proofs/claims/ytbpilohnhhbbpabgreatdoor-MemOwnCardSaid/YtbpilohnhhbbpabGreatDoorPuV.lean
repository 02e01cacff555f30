/- What loads and stores by a buffer, a table and a memory compute. -/
import Derived.Test.YtbpilohnhhbbpabGreatDoorPuU
set_option linter.unusedVariables false
set_option linter.constructorNameAsVariable false
namespace Go.Sx
def inM (K f a : Int) : Bool := decide (0 ≤ f) && (decide (f < K) && (decide (0 ≤ a) && decide (a < 16)))
/-- The word that a load, a store finds: frame f of K frames, place a. -/
def wordM (Ls : List (List Int)) (K f a : Int) : Int := if inM K f a then (Ls.getD f.toNat []).getD a.toNat 0 else 0
def touchV (Ls : List (List Int)) (K f c0 a : Int) : Int := if c0 = 20 ∨ c0 = 22 ∨ c0 = 23 then wordM Ls K f a else 0
/-- Frame j behind it. -/
def touchL (Ls : List (List Int)) (K f c0 a c3 c4 : Int) (j : Nat) : List Int :=
  let L := Ls.getD j []
  if inM K f a ∧ f = j then
    (if c0 = 21 then L.set a.toNat c3 else if c0 = 22 then (if L.getD a.toNat 0 = c3 then L.set a.toNat c4 else L) else if c0 = 23 then L.set a.toNat (IntKind.wrap .u64 (L.getD a.toNat 0 + c3)) else L)
  else L
/-- What is wrong with a call. -/
def doE (env c0 c1 c2 c3 c4 : Int) : Int := if env < 0 ∨ 4 ≤ env then 10 else if c0 < 20 ∨ 23 < c0 then 1 else checkN c0 c1 c2 c3 c4 4
def doOk (B T : List Int) (env c0 c1 c2 c3 c4 : Int) : Bool := decide (doE env c0 c1 c2 c3 c4 = 0) && walkOk B T env c1 c0
def doR (B T : List Int) (env c0 c1 c2 c3 c4 : Int) : Int := if doE env c0 c1 c2 c3 c4 ≠ 0 then doE env c0 c1 c2 c3 c4 else if walkOk B T env c1 c0 then 0 else 7
def doV (B T : List Int) (Ls : List (List Int)) (K env c0 c1 c2 c3 c4 : Int) : Int := if doOk B T env c0 c1 c2 c3 c4 then touchV Ls K (walkV B T env c1 c0 2) c0 c2 else 0
def doW (B T : List Int) (env c0 c1 c2 c3 c4 : Int) (i : Nat) : Int := if doOk B T env c0 c1 c2 c3 c4 then walkV B T env c1 c0 i else 0
def doB (B T : List Int) (env c0 c1 c2 c3 c4 : Int) : List Int := if doE env c0 c1 c2 c3 c4 = 0 then walkB B T env c1 c0 else B
def doM (B T : List Int) (Ls : List (List Int)) (K env c0 c1 c2 c3 c4 : Int) (j : Nat) : List Int := if doOk B T env c0 c1 c2 c3 c4 then touchL Ls K (walkV B T env c1 c0 2) c0 c2 c3 c4 j else Ls.getD j []
theorem range1 {α : Type} (f : Nat → α) : (List.range 1).map f = [f 0] := rfl
theorem range2 {α : Type} (f : Nat → α) : (List.range 2).map f = [f 0, f 1] := rfl
theorem range16 {α : Type} (f : Nat → α) : (List.range 16).map f = [f 0, f 1, f 2, f 3, f 4, f 5, f 6, f 7, f 8, f 9, f 10, f 11, f 12, f 13, f 14, f 15] := rfl
theorem range3 {α : Type} (f : Nat → α) : (List.range 3).map f = [f 0, f 1, f 2] := rfl
section
variable {B T : List Int} {Ls : List (List Int)} {K env c0 c1 c2 c3 c4 : Int}
theorem do_fail (h : doE env c0 c1 c2 c3 c4 ≠ 0) : doR B T env c0 c1 c2 c3 c4 = doE env c0 c1 c2 c3 c4 ∧ doV B T Ls K env c0 c1 c2 c3 c4 = 0 ∧ (∀ i, doW B T env c0 c1 c2 c3 c4 i = 0) ∧ doB B T env c0 c1 c2 c3 c4 = B ∧ ∀ j, doM B T Ls K env c0 c1 c2 c3 c4 j = Ls.getD j [] := by
  have hk : doOk B T env c0 c1 c2 c3 c4 = false := by unfold doOk; rw [decide_eq_false h, Bool.false_and]
  refine ⟨by unfold doR; rw [if_pos h], by unfold doV; rw [hk]; rfl, fun i => by unfold doW; rw [hk]; rfl, by unfold doB; rw [if_neg h], fun j => by unfold doM; rw [hk]; rfl⟩
theorem do_fault (h : doE env c0 c1 c2 c3 c4 = 0) (hw : walkOk B T env c1 c0 = false) : doR B T env c0 c1 c2 c3 c4 = 7 ∧ doV B T Ls K env c0 c1 c2 c3 c4 = 0 ∧ (∀ i, doW B T env c0 c1 c2 c3 c4 i = 0) ∧ doB B T env c0 c1 c2 c3 c4 = walkB B T env c1 c0 ∧ ∀ j, doM B T Ls K env c0 c1 c2 c3 c4 j = Ls.getD j [] := by
  have hk : doOk B T env c0 c1 c2 c3 c4 = false := by unfold doOk; rw [hw, Bool.and_false]
  refine ⟨by unfold doR; rw [if_neg (fun c => c h), hw]; rfl, by unfold doV; rw [hk]; rfl, fun i => by unfold doW; rw [hk]; rfl, by unfold doB; rw [if_pos h], fun j => by unfold doM; rw [hk]; rfl⟩
theorem do_ok (h : doE env c0 c1 c2 c3 c4 = 0) (hw : walkOk B T env c1 c0 = true) : doR B T env c0 c1 c2 c3 c4 = 0 ∧ doV B T Ls K env c0 c1 c2 c3 c4 = touchV Ls K (walkV B T env c1 c0 2) c0 c2 ∧ (∀ i, doW B T env c0 c1 c2 c3 c4 i = walkV B T env c1 c0 i) ∧ doB B T env c0 c1 c2 c3 c4 = walkB B T env c1 c0 ∧ ∀ j, doM B T Ls K env c0 c1 c2 c3 c4 j = touchL Ls K (walkV B T env c1 c0 2) c0 c2 c3 c4 j := by
  have hk : doOk B T env c0 c1 c2 c3 c4 = true := by unfold doOk; rw [decide_eq_true h, hw]; rfl
  refine ⟨by unfold doR; rw [if_neg (fun c => c h), hw]; rfl, by unfold doV; rw [hk]; rfl, fun i => by unfold doW; rw [hk]; rfl, by unfold doB; rw [if_pos h], fun j => by unfold doM; rw [hk]; rfl⟩
end
theorem user_kind (w : Int) : (20 ≤ callN w → 20 ≤ w ∧ w ≤ 23 ∧ callN w = w) ∧ (¬ 20 ≤ callN w → w < 20 ∨ 23 < w) := by
  unfold callN
  by_cases h : callOk w = true
  · rw [if_pos h]
    simp [callOk] at h
    omega
  · rw [if_neg h]
    simp [callOk] at h
    omega
theorem argsB_user {k a b c d e : Int} (h1 : 20 ≤ k) : argsB k a b c d e = (decide (a < 8) && decide (b < 16)) := by
  have n1 : ¬ (k = 1 ∨ k = 4 ∨ k = 5) := by omega
  have n2 : ¬ k = 2 := by omega
  have n3 : ¬ k = 3 := by omega
  have n6 : ¬ k = 6 := by omega
  have n7 : ¬ k = 7 := by omega
  have n8 : ¬ k = 8 := by omega
  have n9 : ¬ k = 9 := by omega
  unfold argsB
  rw [if_neg n1, if_neg n2, if_neg n3, if_neg n6, if_neg n7, if_neg n8, if_neg n9, if_pos h1]
theorem user_args {k a b c d e : Int} (h1 : 20 ≤ k) (h2 : k ≤ 23) (h : checkN k a b c d e = 0) : a < 8 ∧ b < 16 := by
  unfold checkN at h
  have hk : callOk k = true := by simp [callOk]; omega
  rw [if_pos hk, argsB_user h1] at h
  by_cases c : (decide (a < 8) && decide (b < 16)) = true
  · simpa using c
  · rw [if_neg c] at h; omega
theorem user_fine {k a b c d e : Int} (h1 : 20 ≤ k) (h2 : k ≤ 23) (ha : a < 8) (hb : b < 16) : checkN k a b c d e = 0 := by
  unfold checkN
  have hk : callOk k = true := by simp [callOk]; omega
  rw [if_pos hk, argsB_user h1, decide_eq_true ha, decide_eq_true hb]
  rfl
theorem doE_fine {env k a b c d : Int} (e0 : 0 ≤ env) (e4 : env < 4) (h1 : 20 ≤ k) (h2 : k ≤ 23) (ha : a < 8) (hb : b < 16) : doE env k a b c d = 0 := by
  unfold doE
  rw [if_neg (by omega), if_neg (by omega)]
  exact user_fine h1 h2 ha hb
end Go.Sx
