/- The buffer's list and the document's: what is in one is in the other. -/
import Derived.Test.YtbpilohnhhbbpabGreatDoorPuR
set_option linter.unusedVariables false
set_option linter.constructorNameAsVariable false
namespace Go.Sx
theorem gI_set {L : List Int} {n : Nat} {v q : Int} (hn : n < L.length) : gI (L.set n v) q = if q.toNat = n then v else gI L q := by
  simp only [gI, List.getD_eq_getElem?_getD, List.getElem?_set]
  by_cases h : n = q.toNat
  · subst h; simp [hn]
  · have h' : ¬ q.toNat = n := fun c => h c.symm
    simp [h, h']
theorem emptyB_len {L : List Int} {o : Int} : (emptyB L o).length = L.length := by simp [emptyB]
theorem noneR_len {L : List Int} {o : Int} : (noneR L o).length = L.length := by simp [noneR]
theorem putB_len {L : List Int} {o e p f r n : Int} : (putB L o e p f r n).length = L.length := by simp [putB]
theorem putR_len {L : List Int} {o e p f r n : Int} : (putR L o e p f r n).length = L.length := by simp [putR]
theorem gI_emptyB {L : List Int} {o q : Int} (h : L.length = 41) (h0 : 0 ≤ o) (h1 : o ≤ 37) (hq : 0 ≤ q) :
    gI (emptyB L o) q = if q = o then -1 else if o < q ∧ q ≤ o + 3 then 0 else gI L q := by
  unfold emptyB
  rw [gI_set (by simp; omega), gI_set (by simp; omega), gI_set (by simp; omega), gI_set (by omega)]
  repeat' split
  all_goals first | rfl | omega
theorem gI_noneR {L : List Int} {i q : Int} (h : L.length = 41) (h0 : 0 ≤ i) (h1 : i ≤ 7) (hq : 0 ≤ q) :
    gI (noneR L i) q = if q = i * 4 then -1 else if i * 4 < q ∧ q ≤ i * 4 + 3 then 0 else gI L q := by
  unfold noneR
  rw [gI_set (by simp; omega), gI_set (by simp; omega), gI_set (by simp; omega), gI_set (by omega)]
  repeat' split
  all_goals first | rfl | omega
theorem gI_putB {L : List Int} {o e p f r n q : Int} (h : L.length = 41) (h0 : 0 ≤ o) (h1 : o ≤ 35) (hq : 0 ≤ q) :
    gI (putB L o e p f r n) q = if q = o then e else if q = o + 1 then p else if q = o + 2 then f else if q = o + 3 then r else if q = o + 4 then n else if q = 40 then n else gI L q := by
  unfold putB
  have hn : gI (L.set 40 n) 40 = n := by rw [gI_set (by omega)]; rfl
  rw [hn, gI_set (by simp; omega), gI_set (by simp; omega), gI_set (by simp; omega), gI_set (by simp; omega), gI_set (by simp; omega), gI_set (by omega)]
  repeat' split
  all_goals first | rfl | omega
theorem gI_putR {L : List Int} {i e p f r n q : Int} (h : L.length = 41) (h0 : 0 ≤ i) (h1 : i ≤ 7) (hq : 0 ≤ q) :
    gI (putR L i e p f r n) q = if q = i * 4 then e else if q = i * 4 + 1 then p else if q = i * 4 + 2 then f else if q = i * 4 + 3 then r else if q = 32 + i then n else if q = 40 then n else gI L q := by
  unfold putR
  have hn : gI (L.set 40 n) 40 = n := by rw [gI_set (by omega)]; rfl
  rw [hn, gI_set (by simp; omega), gI_set (by simp; omega), gI_set (by simp; omega), gI_set (by simp; omega), gI_set (by simp; omega), gI_set (by omega)]
  repeat' split
  all_goals first | rfl | omega
/-- Entries are in the places of their sets, each once. -/
structure WB (L : List Int) : Prop where
  len : L.length = 41
  page : ∀ i : Int, 0 ≤ i → i < 8 → 0 ≤ gI L (5 * i) → 0 ≤ gI L (5 * i + 1) ∧ gI L (5 * i + 1) < 8 ∧ gI L (5 * i + 1) % 4 = i / 2
  uniq : ∀ i j : Int, 0 ≤ i → i < 8 → 0 ≤ j → j < 8 → 0 ≤ gI L (5 * i) → gI L (5 * i) = gI L (5 * j) → gI L (5 * i + 1) = gI L (5 * j + 1) → i = j
theorem hitB_iff {L : List Int} {e p o : Int} : hitB L e p o = true ↔ gI L o = e ∧ gI L (o + 1) = p := by
  simp [hitB]
theorem WB.at_some {L : List Int} (h : WB L) {e p : Int} (ha : atB L e p ≠ -1) : ∃ i, 0 ≤ i ∧ i < 8 ∧ atB L e p = 5 * i ∧ 0 ≤ e ∧ gI L (5 * i) = e ∧ gI L (5 * i + 1) = p ∧ i / 2 = p % 4 := by
  unfold atB at ha ⊢
  by_cases h1 : e < 0 ∨ p < 0 ∨ 8 ≤ p
  · rw [if_pos h1] at ha; exact absurd rfl ha
  · rw [if_neg h1] at ha ⊢
    by_cases h2 : hitB L e p (baseB p) = true
    · rw [if_pos h2] at ha ⊢
      rw [hitB_iff] at h2
      have hb : baseB p = p % 4 * 10 := rfl
      refine ⟨p % 4 * 2, by omega, by omega, by unfold baseB; omega, by omega, ?_, ?_, by omega⟩
      · rw [show 5 * (p % 4 * 2) = baseB p by omega]; exact h2.1
      · rw [show 5 * (p % 4 * 2) = baseB p by omega]; exact h2.2
    · rw [if_neg h2] at ha ⊢
      by_cases h3 : hitB L e p (baseB p + 5) = true
      · rw [if_pos h3] at ha ⊢
        rw [hitB_iff] at h3
        have hb : baseB p = p % 4 * 10 := rfl
        refine ⟨p % 4 * 2 + 1, by omega, by omega, by unfold baseB; omega, by omega, ?_, ?_, by omega⟩
        · rw [show 5 * (p % 4 * 2 + 1) = baseB p + 5 by omega]; exact h3.1
        · rw [show 5 * (p % 4 * 2 + 1) = baseB p + 5 by omega]; exact h3.2
      · rw [if_neg h3] at ha; exact absurd rfl ha
theorem WB.at_of {L : List Int} (h : WB L) {e p i : Int} (i0 : 0 ≤ i) (i8 : i < 8) (he : 0 ≤ e) (h1 : gI L (5 * i) = e) (h2 : gI L (5 * i + 1) = p) : atB L e p = 5 * i := by
  have hp := h.page i i0 i8 (by omega)
  have ne : atB L e p ≠ -1 := by
    unfold atB
    rw [if_neg (by omega)]
    have hi : i = p % 4 * 2 ∨ i = p % 4 * 2 + 1 := by omega
    have hb : baseB p = p % 4 * 10 := rfl
    rcases hi with hi | hi
    · have : hitB L e p (baseB p) = true := by
        rw [hitB_iff, show baseB p = 5 * i by omega]; exact ⟨h1, h2⟩
      rw [if_pos this]; unfold baseB; omega
    · have : hitB L e p (baseB p + 5) = true := by
        rw [hitB_iff, show baseB p + 5 = 5 * i by omega]; exact ⟨h1, h2⟩
      rw [if_pos this]
      split <;> (unfold baseB; omega)
  obtain ⟨j, j0, j8, hj, _, g1, g2, _⟩ := h.at_some ne
  have := h.uniq i j i0 i8 j0 j8 (by omega) (by omega) (by omega)
  rw [hj, this]
theorem WB.empty {L : List Int} (h : WB L) {i : Int} (i0 : 0 ≤ i) (i8 : i < 8) : WB (emptyB L (5 * i)) := by
  have g := fun q hq => gI_emptyB (L := L) (o := 5 * i) (q := q) h.len (by omega) (by omega) hq
  refine ⟨by rw [emptyB_len]; exact h.len, fun j j0 j8 hj => ?_, fun j k j0 j8 k0 k8 hj e1 e2 => ?_⟩
  · rw [g _ (by omega)] at hj
    have hji : j ≠ i := by intro c; subst c; rw [if_pos rfl] at hj; omega
    rw [if_neg (by omega), if_neg (by omega)] at hj
    rw [g _ (by omega), if_neg (by omega), if_neg (by omega)]
    exact h.page j j0 j8 hj
  · rw [g _ (by omega)] at hj
    have hji : j ≠ i := by intro c; subst c; rw [if_pos rfl] at hj; omega
    rw [if_neg (by omega), if_neg (by omega)] at hj
    rw [g _ (by omega), g _ (by omega), if_neg (by omega), if_neg (by omega)] at e1
    have hki : k ≠ i := by intro c; subst c; rw [if_pos rfl] at e1; omega
    rw [if_neg (by omega), if_neg (by omega)] at e1
    rw [g _ (by omega), g _ (by omega), if_neg (by omega), if_neg (by omega), if_neg (by omega), if_neg (by omega)] at e2
    exact h.uniq j k j0 j8 k0 k8 hj e1 e2
theorem WB.put {L : List Int} (h : WB L) {i e p f r n : Int} (i0 : 0 ≤ i) (i8 : i < 8) (p0 : 0 ≤ p) (p8 : p < 8) (hs : i / 2 = p % 4) (hno : ∀ j : Int, 0 ≤ j → j < 8 → j ≠ i → ¬ (gI L (5 * j) = e ∧ gI L (5 * j + 1) = p)) : WB (putB L (5 * i) e p f r n) := by
  have g := fun q hq => gI_putB (L := L) (o := 5 * i) (e := e) (p := p) (f := f) (r := r) (n := n) (q := q) h.len (by omega) (by omega) hq
  have gi0 : gI (putB L (5 * i) e p f r n) (5 * i) = e := by rw [g _ (by omega), if_pos rfl]
  have gi1 : gI (putB L (5 * i) e p f r n) (5 * i + 1) = p := by rw [g _ (by omega), if_neg (by omega), if_pos rfl]
  have go : ∀ j k : Int, 0 ≤ j → j < 8 → j ≠ i → 0 ≤ k → k ≤ 4 → gI (putB L (5 * i) e p f r n) (5 * j + k) = gI L (5 * j + k) := by
    intro j k j0 j8 hj k0 k4
    rw [g _ (by omega), if_neg (by omega), if_neg (by omega), if_neg (by omega), if_neg (by omega), if_neg (by omega), if_neg (by omega)]
  have go0 : ∀ j : Int, 0 ≤ j → j < 8 → j ≠ i → gI (putB L (5 * i) e p f r n) (5 * j) = gI L (5 * j) := by
    intro j j0 j8 hj
    have := go j 0 j0 j8 hj (by omega) (by omega)
    rwa [Int.add_zero] at this
  refine ⟨by rw [putB_len]; exact h.len, fun j j0 j8 hj => ?_, fun j k j0 j8 k0 k8 hj e1 e2 => ?_⟩
  · by_cases hji : j = i
    · subst hji; rw [gi1]; omega
    · rw [go0 j j0 j8 hji] at hj
      rw [go j 1 j0 j8 hji (by omega) (by omega)]
      exact h.page j j0 j8 hj
  · by_cases hji : j = i
    · by_cases hki : k = i
      · rw [hji, hki]
      · subst hji
        rw [gi0, go0 k k0 k8 hki] at e1
        rw [gi1, go k 1 k0 k8 hki (by omega) (by omega)] at e2
        exact absurd ⟨e1.symm, e2.symm⟩ (hno k k0 k8 hki)
    · by_cases hki : k = i
      · subst hki
        rw [gi0, go0 j j0 j8 hji] at e1
        rw [gi1, go j 1 j0 j8 hji (by omega) (by omega)] at e2
        exact absurd ⟨e1, e2⟩ (hno j j0 j8 hji)
      · rw [go0 j j0 j8 hji] at hj
        rw [go0 j j0 j8 hji, go0 k k0 k8 hki] at e1
        rw [go j 1 j0 j8 hji (by omega) (by omega), go k 1 k0 k8 hki (by omega) (by omega)] at e2
        exact h.uniq j k j0 j8 k0 k8 hj e1 e2
/-- The place that a fill takes. -/
theorem WB.place {L : List Int} (h : WB L) {e p : Int} (e0 : 0 ≤ e) (p0 : 0 ≤ p) (p8 : p < 8) :
    ∃ i, 0 ≤ i ∧ i < 8 ∧ placeB L e p = 5 * i ∧ i / 2 = p % 4 ∧ ∀ j : Int, 0 ≤ j → j < 8 → j ≠ i → ¬ (gI L (5 * j) = e ∧ gI L (5 * j + 1) = p) := by
  unfold placeB
  by_cases ha : atB L e p = -1
  · rw [if_pos ha]
    have hno : ∀ j : Int, 0 ≤ j → j < 8 → ¬ (gI L (5 * j) = e ∧ gI L (5 * j + 1) = p) := by
      rintro j j0 j8 ⟨c1, c2⟩
      have := h.at_of j0 j8 e0 c1 c2
      omega
    have hr : roomB L (baseB p) = baseB p ∨ roomB L (baseB p) = baseB p + 5 := by
      unfold roomB
      repeat' split
      all_goals simp
    rcases hr with hr | hr
    · exact ⟨p % 4 * 2, by omega, by omega, by rw [hr]; unfold baseB; omega, by omega, fun j j0 j8 _ => hno j j0 j8⟩
    · exact ⟨p % 4 * 2 + 1, by omega, by omega, by rw [hr]; unfold baseB; omega, by omega, fun j j0 j8 _ => hno j j0 j8⟩
  · rw [if_neg ha]
    obtain ⟨i, i0, i8, hi, _, g1, g2, hs⟩ := h.at_some ha
    refine ⟨i, i0, i8, hi, hs, fun j j0 j8 hj c => hj ?_⟩
    exact h.uniq j i j0 j8 i0 i8 (by omega) (by omega) (by omega)
theorem WB.fill {L : List Int} (h : WB L) (e p f r : Int) : WB (fillB L e p f r) := by
  unfold fillB
  split
  · rename_i hk
    simp only [lineOk, Bool.and_eq_true, decide_eq_true_eq] at hk
    obtain ⟨i, i0, i8, hi, hs, hno⟩ := h.place (e := e) (p := p) hk.1 hk.2.2.1 hk.2.2.2.1
    rw [hi]
    exact h.put i0 i8 hk.2.2.1 hk.2.2.2.1 hs hno
  · exact h
theorem WB.flush {L : List Int} (h : WB L) (e p : Int) : WB (flushB L e p) := by
  unfold flushB
  split
  · exact h
  · rename_i ha
    obtain ⟨i, i0, i8, hi, _⟩ := h.at_some ha
    rw [hi]; exact h.empty i0 i8
theorem WB.start : WB (clearB (List.replicate 41 0)) := by
  have e : clearB (List.replicate 41 0) = [-1, 0, 0, 0, 0, -1, 0, 0, 0, 0, -1, 0, 0, 0, 0, -1, 0, 0, 0, 0, -1, 0, 0, 0, 0, -1, 0, 0, 0, 0, -1, 0, 0, 0, 0, -1, 0, 0, 0, 0, 0] := by decide
  rw [e]
  have neg : ∀ i : Int, 0 ≤ i → i < 8 → gI [-1, 0, 0, 0, 0, -1, 0, 0, 0, 0, -1, 0, 0, 0, 0, -1, 0, 0, 0, 0, -1, 0, 0, 0, 0, -1, 0, 0, 0, 0, -1, 0, 0, 0, 0, -1, 0, 0, 0, 0, 0] (5 * i) = -1 := by
    intro i i0 i8
    have : i = 0 ∨ i = 1 ∨ i = 2 ∨ i = 3 ∨ i = 4 ∨ i = 5 ∨ i = 6 ∨ i = 7 := by omega
    rcases this with rfl | rfl | rfl | rfl | rfl | rfl | rfl | rfl <;> rfl
  exact ⟨rfl, fun i i0 i8 hi => by rw [neg i i0 i8] at hi; omega, fun i j i0 i8 j0 j8 hi => by rw [neg i i0 i8] at hi; omega⟩
/-- How many entries of a frame there are below n. -/
def cntB (L : List Int) (f : Int) : Nat → Int
  | 0 => 0
  | n + 1 => cntB L f n + (if 0 ≤ gI L (5 * n) ∧ gI L (5 * n + 2) = f then 1 else 0)
structure FfSt (L : List Int) (f : Int) (k : Nat) (T : List Int) (n : Int) : Prop where
  wb : WB T
  cell : ∀ i c : Int, 0 ≤ i → i < 8 → 0 ≤ c → c < 4 → gI T (5 * i + c) = if i < k ∧ 0 ≤ gI L (5 * i) ∧ gI L (5 * i + 2) = f then (if c = 0 then -1 else 0) else gI L (5 * i + c)
  time : ∀ i : Int, 0 ≤ i → i < 8 → gI T (5 * i + 4) = gI L (5 * i + 4)
  now : gI T 40 = gI L 40
  cnt : n = cntB L f k
theorem WB.ff {L : List Int} (h : WB L) (f : Int) : ∀ k : Nat, k ≤ 8 → FfSt L f k (ffB L f k).1 (ffB L f k).2
  | 0, _ => ⟨h, fun i c i0 i8 c0 c4 => by rw [if_neg (by omega)]; rfl, fun _ _ _ => rfl, rfl, rfl⟩
  | k + 1, hk => by
    have ih := h.ff f k (by omega)
    have hs := ffB_succ L f k
    have e0 : (k : Int) * 5 = 5 * k := Int.mul_comm _ _
    rw [e0] at hs
    generalize ffB L f k = q at ih hs
    have ck := fun c c0 c4 => ih.cell k c (by omega) (by omega) c0 c4
    by_cases hc : 0 ≤ gI L (5 * k) ∧ gI L (5 * k + 2) = f
    · have hne : atB q.1 (gI L (5 * k)) (gI L (5 * k + 1)) = 5 * (k : Int) := by
        refine ih.wb.at_of (by omega) (by omega) hc.1 ?_ ?_
        · have := ck 0 (by omega) (by omega); rw [if_neg (by omega), Int.add_zero] at this; exact this
        · have := ck 1 (by omega) (by omega); rw [if_neg (by omega)] at this; exact this
      rw [if_pos ⟨hc.1, hc.2, by omega⟩] at hs
      have hfl : flushB q.1 (gI L (5 * k)) (gI L (5 * k + 1)) = emptyB q.1 (5 * k) := by
        unfold flushB; rw [hne, if_neg (by omega)]
      rw [hfl] at hs
      rw [hs]
      have g := fun x hx => gI_emptyB (L := q.1) (o := 5 * (k : Int)) (q := x) ih.wb.len (by omega) (by omega) hx
      refine ⟨ih.wb.empty (by omega) (by omega), fun i c i0 i8 c0 c4 => ?_, fun i i0 i8 => ?_, ?_, ?_⟩
      · simp only
        rw [g _ (by omega)]
        by_cases hi : i = k
        · subst hi
          rw [if_pos (c := (k : Int) < ((k + 1 : Nat) : Int) ∧ _) ⟨by omega, hc⟩]
          by_cases h0 : c = 0
          · rw [if_pos (by omega), if_pos h0]
          · rw [if_neg (by omega), if_pos (by omega), if_neg h0]
        · rw [if_neg (by omega), if_neg (by omega), ih.cell i c i0 i8 c0 c4]
          have : (i < (k : Int) ∧ 0 ≤ gI L (5 * i) ∧ gI L (5 * i + 2) = f) ↔ (i < ((k + 1 : Nat) : Int) ∧ 0 ≤ gI L (5 * i) ∧ gI L (5 * i + 2) = f) := by
            constructor
            · intro h; exact ⟨by omega, h.2⟩
            · intro h; exact ⟨by omega, h.2⟩
          simp only [this]
      · simp only
        rw [g _ (by omega), if_neg (by omega), if_neg (by omega)]
        exact ih.time i i0 i8
      · simp only
        rw [g _ (by omega), if_neg (by omega), if_neg (by omega)]
        exact ih.now
      · simp only [cntB]
        rw [if_pos hc, ih.cnt]
    · rw [if_neg (fun c => hc ⟨c.1, c.2.1⟩)] at hs
      rw [hs]
      refine ⟨ih.wb, fun i c i0 i8 c0 c4 => ?_, ih.time, ih.now, ?_⟩
      · rw [ih.cell i c i0 i8 c0 c4]
        have : (i < (k : Int) ∧ 0 ≤ gI L (5 * i) ∧ gI L (5 * i + 2) = f) ↔ (i < ((k + 1 : Nat) : Int) ∧ 0 ≤ gI L (5 * i) ∧ gI L (5 * i + 2) = f) := by
          constructor
          · intro h; exact ⟨by omega, h.2⟩
          · intro h
            refine ⟨?_, h.2⟩
            by_cases hi : i = k
            · subst hi; exact absurd h.2 hc
            · omega
        simp only [this]
      · simp only [cntB]
        rw [if_neg hc, ih.cnt]; omega
/-- No place ahead has the entry. -/
structure NoHit (L : List Int) (e p : Int) (i : Int) : Prop where
  no : ∀ j : Int, 0 ≤ j → j < i → ¬ (0 ≤ gI L (5 * j) ∧ gI L (5 * j) = e ∧ gI L (5 * j + 1) = p)
end Go.Sx
