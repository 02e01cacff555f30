/- What a walk computes: a buffer's list, a table's list. -/
import Derived.Test.YtbpilohnhhbbpabGreatDoorPuX
import Derived.Test.YtbpilohnhhbbpabGreatDoorPuT
import Derived.Test.YtbpilohnhhbbpabGreatDoorPuM
set_option linter.unusedVariables false
set_option linter.constructorNameAsVariable false
namespace Go.Sx
def hitW (L : List Int) (e p k : Int) : Bool := decide (atB L e p ≠ -1) && letsB (findB L e p 3) k
def tabW (T : List Int) (p k : Int) : Bool := letsB (atV T p 2) k
def walkOk (L T : List Int) (e p k : Int) : Bool := hitW L e p k || tabW T p k
def walkV (L T : List Int) (e p k : Int) (i : Nat) : Int := if hitW L e p k then findB L e p i else if tabW T p k then ([e, p, atV T p 0, atV T p 2] : List Int).getD i 0 else 0
def walkB (L T : List Int) (e p k : Int) : List Int := if hitW L e p k then L else if tabW T p k then fillB L e p (atV T p 0) (atV T p 2) else flushB L e p
/-- A table whose entries are in order. -/
structure TV (T : List Int) : Prop where
  len : T.length = 24
  ok : ∀ p : Int, 0 ≤ p → p < 8 → tG T p 2 ≠ 0 → 0 ≤ tG T p 0 ∧ tG T p 0 < 16 ∧ 1 ≤ tG T p 2 ∧ tG T p 2 ≤ 3
theorem TV.start : TV (List.replicate 24 0) := by
  refine ⟨by simp, fun p h0 h8 h => absurd ?_ h⟩
  unfold tG
  rw [List.getD_eq_getElem?_getD, List.getElem?_replicate]
  split <;> rfl
theorem tG_int {T : List Int} {p f s r q : Int} {k : Nat} (hT : T.length = 24) (h0 : 0 ≤ p) (h8 : p < 8) (q0 : 0 ≤ q) (hk : k < 3) :
    tG (tSet3 T p f s r) q k = if q = p then (if k = 0 then f else if k = 1 then s else r) else tG T q k := by
  obtain ⟨n, rfl⟩ : ∃ n : Nat, q = n := ⟨q.toNat, by omega⟩
  exact tG_set3 hT h0 h8 hk
theorem TV.ins {T : List Int} (h : TV T) (p f s r : Int) : TV (insL T p f s r) := by
  unfold insL
  split
  · rename_i hi
    unfold insE at hi
    split at hi
    · omega
    · rename_i hc
      simp only [Bool.or_eq_true, Bool.not_eq_true', decide_eq_true_eq, not_or, Bool.not_eq_false, pageOk, Bool.and_eq_true] at hc
      obtain ⟨⟨hok, hr⟩, h0, h8⟩ := hc
      rw [pteOk_iff] at hok
      refine ⟨by rw [tSet3_len]; exact h.len, fun q q0 q8 hq => ?_⟩
      have e2 : tG (tSet3 T p f s r) q 2 = _ := tG_int (k := 2) h.len h0 h8 q0 (by omega)
      have e0 : tG (tSet3 T p f s r) q 0 = _ := tG_int (k := 0) h.len h0 h8 q0 (by omega)
      rw [e2] at hq ⊢
      rw [e0]
      by_cases hp : q = p
      · simp only [if_pos hp] at hq ⊢
        simp at hq ⊢
        omega
      · simp only [if_neg hp] at hq ⊢
        exact h.ok q q0 q8 hq
  · exact h
theorem TV.rem {T : List Int} (h : TV T) (p : Int) : TV (remL T p) := by
  unfold remL
  split
  · rename_i hi
    unfold remE at hi
    split at hi
    · omega
    · rename_i hc
      simp only [Bool.not_eq_true', Bool.not_eq_false, pageOk, Bool.and_eq_true, decide_eq_true_eq] at hc
      obtain ⟨h0, h8⟩ := hc
      refine ⟨by rw [tSet3_len]; exact h.len, fun q q0 q8 hq => ?_⟩
      have e2 : tG (tSet3 T p 0 0 0) q 2 = _ := tG_int (k := 2) h.len h0 h8 q0 (by omega)
      have e0 : tG (tSet3 T p 0 0 0) q 0 = _ := tG_int (k := 0) h.len h0 h8 q0 (by omega)
      rw [e2] at hq ⊢
      rw [e0]
      by_cases hp : q = p
      · simp only [if_pos hp] at hq
        simp at hq
      · simp only [if_neg hp] at hq ⊢
        exact h.ok q q0 q8 hq
  · exact h
/-- What is found behind a fill. -/
theorem find_fill {L : List Int} (h : WB L) {e p f r : Int} (e0 : 0 ≤ e) (e4 : e < 4) (p0 : 0 ≤ p) (p8 : p < 8) (f0 : 0 ≤ f) (f16 : f < 16) (r1 : 1 ≤ r) (r3 : r ≤ 3) :
    atB (fillB L e p f r) e p ≠ -1 ∧ findB (fillB L e p f r) e p 0 = e ∧ findB (fillB L e p f r) e p 1 = p ∧ findB (fillB L e p f r) e p 2 = f ∧ findB (fillB L e p f r) e p 3 = r := by
  have hl : lineOk e p f r = true := by simp [lineOk, rightsB]; omega
  obtain ⟨i, i0, i8, hi, _, _⟩ := h.place e0 p0 p8
  have hW := h.fill e p f r
  have hf : fillB L e p f r = putB L (5 * i) e p f r (IntKind.wrap .i64 (gI L 40 + 1)) := by unfold fillB; rw [if_pos hl, hi]
  have g := fun q hq => gI_putB (L := L) (o := 5 * i) (e := e) (p := p) (f := f) (r := r) (n := IntKind.wrap .i64 (gI L 40 + 1)) (q := q) h.len (by omega) (by omega) hq
  rw [← hf] at g
  have g0 : gI (fillB L e p f r) (5 * i) = e := by rw [g _ (by omega), if_pos rfl]
  have g1 : gI (fillB L e p f r) (5 * i + 1) = p := by rw [g _ (by omega), if_neg (by omega), if_pos rfl]
  have ha := hW.at_of i0 i8 e0 g0 g1
  have hne : ¬ (5 * i = -1) := by omega
  refine ⟨by rw [ha]; exact hne, ?_, ?_, ?_, ?_⟩ <;> unfold findB <;> rw [ha, if_neg hne]
  · rw [Int.add_zero]; exact g0
  · exact g1
  · rw [g _ (by omega), if_neg (by omega), if_neg (by omega), if_pos rfl]
  · rw [g _ (by omega), if_neg (by omega), if_neg (by omega), if_neg (by omega), if_pos rfl]
theorem find_flush {L : List Int} (h : WB L) (e p : Int) : atB (flushB L e p) e p = -1 := by
  cases Decidable.em (atB (flushB L e p) e p = -1) with
  | inl h => exact h
  | inr hne =>
    obtain ⟨i, i0, i8, hi, e0, g0, g1, _⟩ := (h.flush e p).at_some hne
    unfold flushB at g0 g1
    split at g0
    · rename_i ha
      rw [if_pos ha] at g1
      have := h.at_of i0 i8 e0 g0 g1
      omega
    · rename_i ha
      rw [if_neg ha] at g1
      obtain ⟨j, j0, j8, hj, _, k0, k1, _⟩ := h.at_some ha
      rw [hj, gI_emptyB h.len (by omega) (by omega) (by omega)] at g0 g1
      by_cases hij : i = j
      · subst hij; rw [if_pos rfl] at g0; omega
      · rw [if_neg (by omega), if_neg (by omega)] at g0 g1
        have := h.at_of i0 i8 e0 g0 g1
        omega
theorem letsB_in {r k : Int} (h : letsB r k = true) : 1 ≤ r ∧ r ≤ 3 := by
  have := @letsB_out r k
  cases Decidable.em (r < 1 ∨ 3 < r) with
  | inl c => rw [this c] at h; cases h
  | inr c => omega
/-- What a walk finds, and what is found behind it. -/
theorem walk_cases {L T : List Int} (h : WB L) (t : TV T) {e p : Int} (k : Int) (e0 : 0 ≤ e) (e4 : e < 4) (p0 : 0 ≤ p) (p8 : p < 8) :
    (hitW L e p k = true ∧ walkOk L T e p k = true ∧ walkB L T e p k = L ∧ ∀ i : Nat, walkV L T e p k i = findB L e p i) ∨
    (hitW L e p k = false ∧ tabW T p k = true ∧ walkOk L T e p k = true ∧ atOk T p = true ∧ walkV L T e p k 0 = e ∧ walkV L T e p k 1 = p ∧ walkV L T e p k 2 = atV T p 0 ∧ walkV L T e p k 3 = atV T p 2 ∧
      walkB L T e p k = fillB L e p (atV T p 0) (atV T p 2) ∧ 0 ≤ atV T p 0 ∧ atV T p 0 < 16 ∧
      atB (walkB L T e p k) e p ≠ -1 ∧ findB (walkB L T e p k) e p 0 = e ∧ findB (walkB L T e p k) e p 1 = p ∧ findB (walkB L T e p k) e p 2 = atV T p 0 ∧ findB (walkB L T e p k) e p 3 = atV T p 2) ∨
    (hitW L e p k = false ∧ tabW T p k = false ∧ walkOk L T e p k = false ∧ (∀ i : Nat, walkV L T e p k i = 0) ∧ walkB L T e p k = flushB L e p ∧ atB (walkB L T e p k) e p = -1) := by
  unfold walkOk walkB walkV
  cases hh : hitW L e p k with
  | true => left; simp
  | false =>
    right
    cases ht : tabW T p k with
    | true =>
      left
      have hr := letsB_in (show letsB (atV T p 2) k = true from ht)
      have hok : atOk T p = true := by
        cases ho : atOk T p with
        | true => rfl
        | false => unfold atV at hr; rw [ho] at hr; simp at hr
      have h2 : atV T p 2 = tG T p 2 := by unfold atV; rw [if_pos hok]
      have h0 : atV T p 0 = tG T p 0 := by unfold atV; rw [if_pos hok]
      have ho := t.ok p p0 p8 (by rw [← h2]; omega)
      rw [← h0, ← h2] at ho
      have ff := find_fill h e0 e4 p0 p8 ho.1 ho.2.1 ho.2.2.1 ho.2.2.2
      simp only [Bool.false_or, Bool.false_eq_true, if_false, if_true, hok]
      exact ⟨by first | trivial | rfl, by first | trivial | rfl, by first | trivial | rfl, by first | trivial | rfl, by first | trivial | rfl, by first | trivial | rfl, by first | trivial | rfl, by first | trivial | rfl, by first | trivial | rfl, ho.1, ho.2.1, ff⟩
    | false =>
      right
      simp only [Bool.or_false, Bool.false_eq_true, if_false]
      exact ⟨by first | trivial | rfl, by first | trivial | rfl, by first | trivial | rfl, (by intros; first | trivial | rfl), by first | trivial | rfl, find_flush h e p⟩
theorem walk_wb {L T : List Int} (h : WB L) (e p k : Int) : WB (walkB L T e p k) := by
  unfold walkB
  split
  · exact h
  · split
    · exact h.fill _ _ _ _
    · exact h.flush _ _
end Go.Sx
