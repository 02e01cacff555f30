/- The two buffers alike. -/
import Derived.Test.YtbpilohnhhbbpabGreatDoorPuW
set_option linter.unusedVariables false
set_option linter.constructorNameAsVariable false
namespace Go.Sx
structure BR (L M : List Int) : Prop where
  lenM : M.length = 41
  cell : ∀ i c : Int, 0 ≤ i → i < 8 → 0 ≤ c → c < 4 → gI L (5 * i + c) = gI M (i * 4 + c)
  time : ∀ i : Int, 0 ≤ i → i < 8 → gI L (5 * i + 4) = gI M (32 + i)
  now : gI L 40 = gI M 40
/-- An empty place is all nought but the environment, which is -1. -/
structure NB (L : List Int) : Prop where
  none : ∀ i : Int, 0 ≤ i → i < 8 → gI L (5 * i) < 0 → gI L (5 * i) = -1 ∧ gI L (5 * i + 1) = 0 ∧ gI L (5 * i + 2) = 0 ∧ gI L (5 * i + 3) = 0
theorem BR.cell0 {L M : List Int} (b : BR L M) {i : Int} (i0 : 0 ≤ i) (i8 : i < 8) : gI L (5 * i) = gI M (i * 4) := by
  have := b.cell i 0 i0 i8 (by omega) (by omega)
  rwa [Int.add_zero, Int.add_zero] at this
theorem hitR_iff {M : List Int} {e p : Int} {i : Nat} : hitR M e p i = true ↔ 0 ≤ gI M (i * 4) ∧ gI M (i * 4) = e ∧ gI M (i * 4 + 1) = p := by
  simp [hitR]
theorem rfB_hit {M : List Int} {e p : Int} : ∀ {n : Nat}, rfB M e p n ≠ -1 → ∃ i : Nat, i < n ∧ rfB M e p n = i ∧ hitR M e p i = true
  | 0, h => absurd rfl h
  | n + 1, h => by
    rw [rfB_succ] at h ⊢
    by_cases hn : rfB M e p n ≠ -1
    · rw [if_pos hn] at h ⊢
      obtain ⟨i, hi, h1, h2⟩ := rfB_hit hn
      exact ⟨i, by omega, h1, h2⟩
    · rw [if_neg hn] at h ⊢
      by_cases hh : hitR M e p n = true
      · rw [if_pos hh]; exact ⟨n, by omega, rfl, hh⟩
      · rw [if_neg hh] at h; exact absurd rfl h
theorem rfB_miss {M : List Int} {e p : Int} : ∀ {n : Nat}, rfB M e p n = -1 → ∀ i : Nat, i < n → hitR M e p i = false
  | 0, _, i, hi => by omega
  | n + 1, h, i, hi => by
    rw [rfB_succ] at h
    by_cases hn : rfB M e p n ≠ -1
    · rw [if_pos hn] at h; exact absurd h hn
    · have hn' : rfB M e p n = -1 := by omega
      rw [if_neg hn] at h
      by_cases hin : i = n
      · subst hin
        cases hh : hitR M e p i with
        | false => rfl
        | true => rw [hh, if_pos rfl] at h; omega
      · exact rfB_miss hn' i (by omega)
/-- Both find the same place. -/
theorem BR.at {L M : List Int} (b : BR L M) (h : WB L) (e p : Int) : (rfB M e p 8 = -1 ∧ atB L e p = -1) ∨ ∃ i, 0 ≤ i ∧ i < 8 ∧ rfB M e p 8 = i ∧ atB L e p = 5 * i := by
  by_cases hr : rfB M e p 8 = -1
  · left
    refine ⟨hr, ?_⟩
    cases Decidable.em (atB L e p = -1) with
    | inl h => exact h
    | inr ha =>
      obtain ⟨i, i0, i8, hi, e0, g1, g2, _⟩ := h.at_some ha
      have := rfB_miss hr i.toNat (by omega)
      have c : hitR M e p i.toNat = true := by
        rw [hitR_iff, show ((i.toNat : Nat) : Int) = i by omega, ← b.cell0 i0 i8, ← b.cell i 1 i0 i8 (by omega) (by omega)]
        exact ⟨by omega, g1, g2⟩
      rw [c] at this; cases this
  · right
    obtain ⟨i, hi, h1, h2⟩ := rfB_hit hr
    rw [hitR_iff, ← b.cell0 (by omega) (by omega), ← b.cell i 1 (by omega) (by omega) (by omega) (by omega)] at h2
    exact ⟨i, by omega, by omega, h1, h.at_of (by omega) (by omega) (by omega) h2.2.1 h2.2.2⟩
theorem BR.empty {L M : List Int} (b : BR L M) (h : WB L) {i : Int} (i0 : 0 ≤ i) (i8 : i < 8) : BR (emptyB L (5 * i)) (noneR M i) := by
  have g := fun q hq => gI_emptyB (L := L) (o := 5 * i) (q := q) h.len (by omega) (by omega) hq
  have g' := fun q hq => gI_noneR (L := M) (i := i) (q := q) b.lenM (by omega) (by omega) hq
  refine ⟨by rw [noneR_len]; exact b.lenM, fun j c j0 j8 c0 c4 => ?_, fun j j0 j8 => ?_, ?_⟩
  · rw [g _ (by omega), g' _ (by omega)]
    have := b.cell j c j0 j8 c0 c4
    by_cases hj : j = i
    · subst hj
      by_cases hc : c = 0
      · rw [if_pos (by omega), if_pos (by omega)]
      · rw [if_neg (by omega), if_pos (by omega), if_neg (by omega), if_pos (by omega)]
    · rw [if_neg (by omega), if_neg (by omega), if_neg (by omega), if_neg (by omega)]; exact this
  · rw [g _ (by omega), g' _ (by omega), if_neg (by omega), if_neg (by omega), if_neg (by omega), if_neg (by omega)]
    exact b.time j j0 j8
  · rw [g _ (by omega), g' _ (by omega), if_neg (by omega), if_neg (by omega), if_neg (by omega), if_neg (by omega)]
    exact b.now
theorem BR.put {L M : List Int} (b : BR L M) (h : WB L) {i e p f r n : Int} (i0 : 0 ≤ i) (i8 : i < 8) : BR (putB L (5 * i) e p f r n) (putR M i e p f r n) := by
  have g := fun q hq => gI_putB (L := L) (o := 5 * i) (e := e) (p := p) (f := f) (r := r) (n := n) (q := q) h.len (by omega) (by omega) hq
  have g' := fun q hq => gI_putR (L := M) (i := i) (e := e) (p := p) (f := f) (r := r) (n := n) (q := q) b.lenM (by omega) (by omega) hq
  refine ⟨by rw [putR_len]; exact b.lenM, fun j c j0 j8 c0 c4 => ?_, fun j j0 j8 => ?_, ?_⟩
  · rw [g _ (by omega), g' _ (by omega)]
    have := b.cell j c j0 j8 c0 c4
    by_cases hj : j = i
    · subst hj
      have : c = 0 ∨ c = 1 ∨ c = 2 ∨ c = 3 := by omega
      rcases this with rfl | rfl | rfl | rfl
      · rw [if_pos (by omega), if_pos (by omega)]
      · rw [if_neg (by omega), if_pos (by omega), if_neg (by omega), if_pos (by omega)]
      · rw [if_neg (by omega), if_neg (by omega), if_pos (by omega), if_neg (by omega), if_neg (by omega), if_pos (by omega)]
      · rw [if_neg (by omega), if_neg (by omega), if_neg (by omega), if_pos (by omega), if_neg (by omega), if_neg (by omega), if_neg (by omega), if_pos (by omega)]
    · rw [if_neg (by omega), if_neg (by omega), if_neg (by omega), if_neg (by omega), if_neg (by omega), if_neg (by omega), if_neg (by omega), if_neg (by omega), if_neg (by omega), if_neg (by omega), if_neg (by omega), if_neg (by omega)]; exact this
  · rw [g _ (by omega), g' _ (by omega)]
    by_cases hj : j = i
    · subst hj
      rw [if_neg (by omega), if_neg (by omega), if_neg (by omega), if_neg (by omega), if_pos (by omega), if_neg (by omega), if_neg (by omega), if_neg (by omega), if_neg (by omega), if_pos (by omega)]
    · rw [if_neg (by omega), if_neg (by omega), if_neg (by omega), if_neg (by omega), if_neg (by omega), if_neg (by omega), if_neg (by omega), if_neg (by omega), if_neg (by omega), if_neg (by omega), if_neg (by omega), if_neg (by omega)]
      exact b.time j j0 j8
  · rw [g _ (by omega), g' _ (by omega), if_neg (by omega), if_neg (by omega), if_neg (by omega), if_neg (by omega), if_neg (by omega), if_pos (by omega), if_neg (by omega), if_neg (by omega), if_neg (by omega), if_neg (by omega), if_neg (by omega), if_pos (by omega)]
theorem BR.room {L M : List Int} (b : BR L M) {p : Int} : ∃ i, 0 ≤ i ∧ i < 8 ∧ roomB L (baseB p) = 5 * i ∧ roomR M (p % 4 * 2) = i := by
  have hb : baseB p = p % 4 * 10 := rfl
  have f0 : 0 ≤ p % 4 * 2 := by omega
  have f7 : p % 4 * 2 + 1 < 8 := by omega
  have c0 := b.cell0 f0 (by omega)
  have c1 := b.cell0 (i := p % 4 * 2 + 1) (by omega) f7
  have t0 := b.time (p % 4 * 2) f0 (by omega)
  have t1 := b.time (p % 4 * 2 + 1) (by omega) f7
  rw [show 5 * (p % 4 * 2) = baseB p by omega] at c0 t0
  rw [show 5 * (p % 4 * 2 + 1) = baseB p + 5 by omega] at c1 t1
  rw [show (p % 4 * 2 + 1) * 4 = p % 4 * 2 * 4 + 4 by omega] at c1
  rw [show baseB p + 5 + 4 = baseB p + 9 by omega, show 32 + (p % 4 * 2 + 1) = 33 + p % 4 * 2 by omega] at t1
  unfold roomB roomR
  rw [c0, c1, t0, t1]
  by_cases h1 : gI M (p % 4 * 2 * 4) < 0
  · exact ⟨p % 4 * 2, by omega, by omega, by rw [if_pos h1]; omega, by rw [if_pos h1]⟩
  · rw [if_neg h1, if_neg h1]
    by_cases h2 : gI M (p % 4 * 2 * 4 + 4) < 0
    · exact ⟨p % 4 * 2 + 1, by omega, by omega, by rw [if_pos h2]; omega, by rw [if_pos h2]⟩
    · rw [if_neg h2, if_neg h2]
      by_cases h3 : gI M (33 + p % 4 * 2) < gI M (32 + p % 4 * 2)
      · exact ⟨p % 4 * 2 + 1, by omega, by omega, by rw [if_pos h3]; omega, by rw [if_pos h3]⟩
      · exact ⟨p % 4 * 2, by omega, by omega, by rw [if_neg h3]; omega, by rw [if_neg h3]⟩
theorem BR.place {L M : List Int} (b : BR L M) (h : WB L) (e p : Int) : ∃ i, 0 ≤ i ∧ i < 8 ∧ placeB L e p = 5 * i ∧ placeR M e p = i := by
  unfold placeB placeR
  rcases b.at h e p with ⟨h1, h2⟩ | ⟨i, i0, i8, h1, h2⟩
  · rw [if_pos h2, if_pos h1]; exact b.room
  · rw [if_neg (by omega), if_neg (by omega)]; exact ⟨i, i0, i8, h2, h1⟩
theorem BR.fill {L M : List Int} (b : BR L M) (h : WB L) (e p f r : Int) : BR (fillB L e p f r) (fillR M e p f r) := by
  unfold fillB fillR
  split
  · obtain ⟨i, i0, i8, h1, h2⟩ := b.place h e p
    rw [h1, h2, b.now]; exact b.put h i0 i8
  · exact b
theorem BR.flush {L M : List Int} (b : BR L M) (h : WB L) (e p : Int) : BR (flushB L e p) (flushR M e p) := by
  unfold flushB flushR
  rcases b.at h e p with ⟨h1, h2⟩ | ⟨i, i0, i8, h1, h2⟩
  · rw [if_pos h2, if_pos h1]; exact b
  · rw [if_neg (by omega), if_neg (by omega), h1, h2]; exact b.empty h i0 i8
theorem BR.find {L M : List Int} (b : BR L M) (h : WB L) (e p k : Int) (k0 : 0 ≤ k) (k4 : k < 4) : findB L e p k = findR M e p k ∧ (atB L e p ≠ -1 ↔ rfB M e p 8 ≠ -1) := by
  unfold findB findR
  rcases b.at h e p with ⟨h1, h2⟩ | ⟨i, i0, i8, h1, h2⟩
  · rw [if_pos h2, if_pos h1]; exact ⟨rfl, by rw [h1, h2]⟩
  · rw [if_neg (by omega), if_neg (by omega), h1, h2]; exact ⟨b.cell i k i0 i8 k0 k4, by omega⟩
theorem NB.empty {L : List Int} (nb : NB L) (h : L.length = 41) {i : Int} (i0 : 0 ≤ i) (i8 : i < 8) : NB (emptyB L (5 * i)) := by
  have g := fun q hq => gI_emptyB (L := L) (o := 5 * i) (q := q) h (by omega) (by omega) hq
  refine ⟨fun j j0 j8 hj => ?_⟩
  rw [g _ (by omega)] at hj
  rw [g _ (by omega), g _ (by omega), g _ (by omega), g _ (by omega)]
  by_cases hji : j = i
  · subst hji
    rw [if_pos rfl, if_neg (by omega), if_pos (by omega), if_neg (by omega), if_pos (by omega), if_neg (by omega), if_pos (by omega)]
    exact ⟨rfl, rfl, rfl, rfl⟩
  · rw [if_neg (by omega), if_neg (by omega)] at hj
    rw [if_neg (by omega), if_neg (by omega), if_neg (by omega), if_neg (by omega), if_neg (by omega), if_neg (by omega), if_neg (by omega), if_neg (by omega)]
    exact nb.none j j0 j8 hj
theorem NB.put {L : List Int} (nb : NB L) (h : L.length = 41) {i e p f r n : Int} (i0 : 0 ≤ i) (i8 : i < 8) (e0 : 0 ≤ e) : NB (putB L (5 * i) e p f r n) := by
  have g := fun q hq => gI_putB (L := L) (o := 5 * i) (e := e) (p := p) (f := f) (r := r) (n := n) (q := q) h (by omega) (by omega) hq
  refine ⟨fun j j0 j8 hj => ?_⟩
  have hji : j ≠ i := by
    intro c; subst c
    rw [g _ (by omega), if_pos rfl] at hj; omega
  have go : ∀ c : Int, 0 ≤ c → c < 4 → gI (putB L (5 * i) e p f r n) (5 * j + c) = gI L (5 * j + c) := by
    intro c c0 c4
    rw [g _ (by omega), if_neg (by omega), if_neg (by omega), if_neg (by omega), if_neg (by omega), if_neg (by omega), if_neg (by omega)]
  have g0 := go 0 (by omega) (by omega)
  rw [Int.add_zero] at g0
  rw [g0] at hj ⊢
  rw [go 1 (by omega) (by omega), go 2 (by omega) (by omega), go 3 (by omega) (by omega)]
  exact nb.none j j0 j8 hj
theorem NB.fill {L : List Int} (nb : NB L) (h : WB L) (e p f r : Int) : NB (fillB L e p f r) := by
  unfold fillB
  split
  · rename_i hk
    simp only [lineOk, Bool.and_eq_true, decide_eq_true_eq] at hk
    obtain ⟨i, i0, i8, hi, _⟩ := h.place (e := e) (p := p) hk.1 hk.2.2.1 hk.2.2.2.1
    rw [hi]
    exact nb.put h.len i0 i8 hk.1
  · exact nb
theorem NB.flush {L : List Int} (nb : NB L) (h : WB L) (e p : Int) : NB (flushB L e p) := by
  unfold flushB
  split
  · exact nb
  · rename_i ha
    obtain ⟨i, i0, i8, hi, _⟩ := h.at_some ha
    rw [hi]; exact nb.empty h.len i0 i8
theorem evictIn_iff {s w : Int} : evictIn s w = true ↔ 0 ≤ s ∧ s < 4 ∧ 0 ≤ w ∧ w < 2 := by simp [evictIn]
theorem BR.evict {L M : List Int} (b : BR L M) (h : WB L) (nb : NB L) (s w : Int) : evictOk L s w = evictROk M s w ∧ BR (evictB L s w) (evictR M s w) ∧ WB (evictB L s w) ∧ NB (evictB L s w) := by
  have ho : evictOk L s w = (evictIn s w && decide (0 ≤ gI L (s * 10 + w * 5))) := by simp [evictOk, evictIn, Bool.and_assoc]
  unfold evictB evictR evictROk
  rw [ho]
  cases hi : evictIn s w with
  | false => simp only [Bool.false_and, Bool.false_eq_true, if_false]; exact ⟨trivial, b, h, nb⟩
  | true =>
    rw [evictIn_iff] at hi
    have i0 : 0 ≤ s * 2 + w := by omega
    have i8 : s * 2 + w < 8 := by omega
    have e5 : s * 10 + w * 5 = 5 * (s * 2 + w) := by omega
    simp only [Bool.true_and, if_true, decide_eq_true_eq]
    rw [e5, b.cell0 i0 i8]
    refine ⟨rfl, ?_⟩
    by_cases hv : 0 ≤ gI M ((s * 2 + w) * 4)
    · rw [if_pos hv]
      exact ⟨b.empty h i0 i8, h.empty i0 i8, nb.empty h.len i0 i8⟩
    · rw [if_neg hv]
      refine ⟨?_, h, nb⟩
      have hn := nb.none _ i0 i8 (by rw [b.cell0 i0 i8]; omega)
      have g' := fun q hq => gI_noneR (L := M) (i := s * 2 + w) (q := q) b.lenM (by omega) (by omega) hq
      refine ⟨by rw [noneR_len]; exact b.lenM, fun j c j0 j8 c0 c4 => ?_, fun j j0 j8 => ?_, ?_⟩
      · rw [g' _ (by omega)]
        by_cases hj : j = s * 2 + w
        · subst hj
          have : c = 0 ∨ c = 1 ∨ c = 2 ∨ c = 3 := by omega
          rcases this with rfl | rfl | rfl | rfl
          · rw [if_pos (by omega), Int.add_zero]; exact hn.1
          · rw [if_neg (by omega), if_pos (by omega)]; exact hn.2.1
          · rw [if_neg (by omega), if_pos (by omega)]; exact hn.2.2.1
          · rw [if_neg (by omega), if_pos (by omega)]; exact hn.2.2.2
        · rw [if_neg (by omega), if_neg (by omega)]; exact b.cell j c j0 j8 c0 c4
      · rw [g' _ (by omega), if_neg (by omega), if_neg (by omega)]; exact b.time j j0 j8
      · rw [g' _ (by omega), if_neg (by omega), if_neg (by omega)]; exact b.now
theorem BR.ff {L M : List Int} (b : BR L M) (h : WB L) (nb : NB L) (f : Int) : ∀ k : Nat, k ≤ 8 → BR (ffB L f k).1 (ffR M f k).1 ∧ (ffB L f k).2 = (ffR M f k).2 ∧ NB (ffB L f k).1
  | 0, _ => ⟨b, rfl, nb⟩
  | k + 1, hk => by
    obtain ⟨ib, ic, inb⟩ := b.ff h nb f k (by omega)
    have st := h.ff f k (by omega)
    have hs := ffB_succ L f k
    have hs' := ffR_succ M f k
    have e0 : (k : Int) * 5 = 5 * k := Int.mul_comm _ _
    rw [e0] at hs
    generalize ffB L f k = q at ib ic inb st hs
    generalize ffR M f k = q' at ib ic hs'
    have ck := fun c c0 c4 => st.cell k c (by omega) (by omega) c0 c4
    have k0 := ck 0 (by omega) (by omega); rw [if_neg (by omega), Int.add_zero] at k0
    have k1 := ck 1 (by omega) (by omega); rw [if_neg (by omega)] at k1
    have k2 := ck 2 (by omega) (by omega); rw [if_neg (by omega)] at k2
    rw [← ib.cell0 (by omega) (by omega), ← ib.cell k 2 (by omega) (by omega) (by omega) (by omega), k0, k2] at hs'
    by_cases hc : 0 ≤ gI L (5 * k) ∧ gI L (5 * k + 2) = f
    · have hne : atB q.1 (gI L (5 * k)) (gI L (5 * k + 1)) = 5 * (k : Int) := st.wb.at_of (by omega) (by omega) hc.1 k0 k1
      rw [if_pos ⟨hc.1, hc.2, by omega⟩] at hs
      rw [if_pos hc] at hs'
      have hfl : flushB q.1 (gI L (5 * k)) (gI L (5 * k + 1)) = emptyB q.1 (5 * k) := by
        unfold flushB; rw [hne, if_neg (by omega)]
      rw [hfl] at hs
      rw [hs, hs']
      exact ⟨ib.empty st.wb (by omega) (by omega), by simp only; rw [ic], inb.empty st.wb.len (by omega) (by omega)⟩
    · rw [if_neg (fun c => hc ⟨c.1, c.2.1⟩)] at hs
      rw [if_neg hc] at hs'
      rw [hs, hs']
      exact ⟨ib, ic, inb⟩
/-- Both alike, and in order. -/
structure TB (L M : List Int) : Prop where
  r : BR L M
  w : WB L
  n : NB L
theorem TB.fill {L M : List Int} (t : TB L M) (e p f r : Int) : TB (fillB L e p f r) (fillR M e p f r) := ⟨t.r.fill t.w e p f r, t.w.fill e p f r, t.n.fill t.w e p f r⟩
theorem TB.flush {L M : List Int} (t : TB L M) (e p : Int) : TB (flushB L e p) (flushR M e p) := ⟨t.r.flush t.w e p, t.w.flush e p, t.n.flush t.w e p⟩
theorem TB.evict {L M : List Int} (t : TB L M) (s w : Int) : TB (evictB L s w) (evictR M s w) := by
  have := t.r.evict t.w t.n s w
  exact ⟨this.2.1, this.2.2.1, this.2.2.2⟩
theorem TB.ff {L M : List Int} (t : TB L M) (f : Int) : TB (ffB L f 8).1 (ffR M f 8).1 ∧ (ffB L f 8).2 = (ffR M f 8).2 := by
  have := t.r.ff t.w t.n f 8 (Nat.le_refl 8)
  exact ⟨⟨this.1, (t.w.ff f 8 (Nat.le_refl 8)).wb, this.2.2⟩, this.2.1⟩
theorem TB.line {L M : List Int} (t : TB L M) {k c : Nat} (hk : k < 8) (hc : c < 4) : (linesB L).getD (k * 4 + c) 0 = gI M ((k : Int) * 4 + c) := by
  rw [linesB_at hk hc, Int.mul_comm]
  exact t.r.cell k c (by omega) (by omega) (by omega) (by omega)
/-- Emptied whole. -/
theorem TB.clear {L M : List Int} (t : TB L M) : TB (clearB L) (noneR (noneR (noneR (noneR (noneR (noneR (noneR (noneR M 0) 1) 2) 3) 4) 5) 6) 7) := by
  have one : ∀ {L M : List Int} (i : Int), TB L M → 0 ≤ i → i < 8 → TB (emptyB L (5 * i)) (noneR M i) := fun i t i0 i8 => ⟨t.r.empty t.w i0 i8, t.w.empty i0 i8, t.n.empty t.w.len i0 i8⟩
  have t0 := one 0 t (by omega) (by omega)
  have t1 := one 1 t0 (by omega) (by omega)
  have t2 := one 2 t1 (by omega) (by omega)
  have t3 := one 3 t2 (by omega) (by omega)
  have t4 := one 4 t3 (by omega) (by omega)
  have t5 := one 5 t4 (by omega) (by omega)
  have t6 := one 6 t5 (by omega) (by omega)
  exact one 7 t6 (by omega) (by omega)
theorem TB.start : TB (clearB (List.replicate 41 0)) [-1, 0, 0, 0, -1, 0, 0, 0, -1, 0, 0, 0, -1, 0, 0, 0, -1, 0, 0, 0, -1, 0, 0, 0, -1, 0, 0, 0, -1, 0, 0, 0, 0, 0, 0, 0, 0, 0, 0, 0, 0] := by
  have e : clearB (List.replicate 41 0) = [-1, 0, 0, 0, 0, -1, 0, 0, 0, 0, -1, 0, 0, 0, 0, -1, 0, 0, 0, 0, -1, 0, 0, 0, 0, -1, 0, 0, 0, 0, -1, 0, 0, 0, 0, -1, 0, 0, 0, 0, 0] := by decide
  refine ⟨?_, WB.start, ?_⟩
  · rw [e]
    refine ⟨rfl, fun i c i0 i8 c0 c4 => ?_, fun i i0 i8 => ?_, rfl⟩
    · have h1 : i = 0 ∨ i = 1 ∨ i = 2 ∨ i = 3 ∨ i = 4 ∨ i = 5 ∨ i = 6 ∨ i = 7 := by omega
      have h2 : c = 0 ∨ c = 1 ∨ c = 2 ∨ c = 3 := by omega
      rcases h1 with rfl | rfl | rfl | rfl | rfl | rfl | rfl | rfl <;> rcases h2 with rfl | rfl | rfl | rfl <;> rfl
    · have h1 : i = 0 ∨ i = 1 ∨ i = 2 ∨ i = 3 ∨ i = 4 ∨ i = 5 ∨ i = 6 ∨ i = 7 := by omega
      rcases h1 with rfl | rfl | rfl | rfl | rfl | rfl | rfl | rfl <;> rfl
  · rw [e]
    refine ⟨fun i i0 i8 _ => ?_⟩
    have h1 : i = 0 ∨ i = 1 ∨ i = 2 ∨ i = 3 ∨ i = 4 ∨ i = 5 ∨ i = 6 ∨ i = 7 := by omega
    rcases h1 with rfl | rfl | rfl | rfl | rfl | rfl | rfl | rfl <;> exact ⟨rfl, rfl, rfl, rfl⟩
end Go.Sx
