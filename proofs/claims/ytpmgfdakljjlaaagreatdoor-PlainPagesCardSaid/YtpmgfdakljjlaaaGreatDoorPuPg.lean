/- PlainPages: pages of one capability in a table, and gone again. -/
import Derived.Test.YtpmgfdakljjlaaaGreatDoorPuT
set_option linter.unusedVariables false
set_option linter.constructorNameAsVariable false
namespace Go.Sx
/-- A table of whose pages 0 to 6 those that are there are by slot 3, and page 7 is by slot 0. -/
structure PgOk (L : List Int) : Prop where
  len : L.length = 24
  p70 : tG L (7 : Nat) 0 = 0
  p71 : tG L (7 : Nat) 1 = 0
  p72 : tG L (7 : Nat) 2 = 1
  slot : ∀ p : Nat, p < 7 → tG L p 2 ≠ 0 → tG L p 1 = 3
structure PgGone (L : List Int) : Prop where
  len : L.length = 24
  p72 : tG L (7 : Nat) 2 = 1
  none : ∀ p : Nat, p < 7 → tG L p 2 = 0
theorem byUp_has {T : List Int} {s : Int} : ∀ {n p : Nat}, p < n → tG T p 2 ≠ 0 → tG T p 1 = s → ∃ j : Nat, j < (byUp T s n).length ∧ (byUp T s n).getD j 0 = p
  | 0, p, h, _, _ => absurd h (Nat.not_lt_zero _)
  | n + 1, p, h, h2, h1 => by
    rw [byUp_succ]
    by_cases hp : p = n
    · subst hp
      rw [if_pos ⟨h2, h1⟩]
      refine ⟨(byUp T s p).length, by simp, ?_⟩
      simp [List.getD_eq_getElem?_getD]
    · obtain ⟨j, hj, e⟩ := byUp_has (T := T) (s := s) (n := n) (p := p) (by omega) h2 h1
      split
      · refine ⟨j, by simp; omega, ?_⟩
        rw [← e]
        simp [List.getD_eq_getElem?_getD, List.getElem?_append, hj]
      · exact ⟨j, hj, e⟩
theorem byUp_of {T : List Int} {s : Int} : ∀ {n j : Nat}, j < (byUp T s n).length → ∃ p : Nat, p < n ∧ (byUp T s n).getD j 0 = p ∧ tG T p 2 ≠ 0 ∧ tG T p 1 = s
  | 0, j, h => by cases h
  | n + 1, j, h => by
    rw [byUp_succ] at h ⊢
    split at h
    · rename_i hc
      rw [if_pos hc]
      by_cases hj : j < (byUp T s n).length
      · obtain ⟨p, h1, h2, h3⟩ := byUp_of hj
        refine ⟨p, by omega, ?_, h3⟩
        rw [← h2]
        simp [List.getD_eq_getElem?_getD, List.getElem?_append, hj]
      · have : j = (byUp T s n).length := by simp at h; omega
        subst this
        refine ⟨n, by omega, ?_, hc⟩
        simp [List.getD_eq_getElem?_getD]
    · rename_i hc
      rw [if_neg hc]
      obtain ⟨p, h1, h2, h3⟩ := byUp_of h
      exact ⟨p, by omega, h2, h3⟩
theorem remL_at {T : List Int} (hT : T.length = 24) {p : Nat} (hp : p < 8) : (remL T p).length = 24 ∧ tG (remL T p) p 2 = 0 ∧ ∀ q k : Nat, q ≠ p → k < 3 → tG (remL T p) q k = tG T q k := by
  unfold remL remE pageOk
  by_cases h : tG T p 2 = 0
  · have e : (if (!(decide ((0 : Int) ≤ p) && decide ((p : Int) < 8))) = true then (2 : Int) else if tG T p 2 = 0 then 3 else 0) ≠ 0 := by rw [h]; split <;> simp
    rw [if_neg e]
    exact ⟨hT, h, fun _ _ _ _ => rfl⟩
  · have e : (if (!(decide ((0 : Int) ≤ p) && decide ((p : Int) < 8))) = true then (2 : Int) else if tG T p 2 = 0 then 3 else 0) = 0 := by
      rw [if_neg h, if_neg]; simp; omega
    rw [if_pos e]
    refine ⟨by rw [tSet3_len]; exact hT, ?_, fun q k hq hk => ?_⟩
    · have := tG_set3 (T := T) (p := p) (f := 0) (s := 0) (r := 0) (q := p) (k := 2) hT (by omega) (by omega) (by omega)
      rw [if_pos rfl] at this; exact this
    · rw [tG_set3 hT (by omega) (by omega) hk, if_neg (by omega)]
/-- The table T0 while its pages by slot 3 go: i of them are gone. -/
structure PgSt (T0 T : List Int) (i : Nat) : Prop where
  len : T.length = 24
  p72 : tG T (7 : Nat) 2 = 1
  left : ∀ p : Nat, p < 7 → tG T p 2 = 0 ∨ ∃ j : Nat, i ≤ j ∧ j < (byUp T0 3 8).length ∧ (byUp T0 3 8).getD j 0 = p
theorem PgOk.st {T : List Int} (h : PgOk T) : PgSt T T 0 := ⟨h.len, h.p72, fun p hp => by
  by_cases h2 : tG T p 2 = 0
  · exact .inl h2
  · obtain ⟨j, a, b⟩ := byUp_has (n := 8) (by omega) h2 (h.slot p hp h2)
    exact .inr ⟨j, Nat.zero_le _, a, b⟩⟩
theorem PgSt.next {T0 T : List Int} {i : Nat} (h0 : PgOk T0) (h : PgSt T0 T i) (hi : i < (byUp T0 3 8).length) : 0 ≤ (byUp T0 3 8).getD i 0 ∧ (byUp T0 3 8).getD i 0 < 8 ∧ PgSt T0 (remL T ((byUp T0 3 8).getD i 0)) (i + 1) := by
  obtain ⟨p, p8, e, h2, h1⟩ := byUp_of hi
  rw [e]
  obtain ⟨r1, r2, r3⟩ := remL_at h.len (p := p) p8
  have p7 : p ≠ 7 := by
    rintro rfl
    rw [h0.p71] at h1
    cases h1
  refine ⟨by omega, by omega, r1, ?_, fun q hq => ?_⟩
  · have := r3 7 2 (fun c => p7 c.symm) (by omega)
    exact this.trans h.p72
  · by_cases hqp : q = p
    · subst hqp; exact .inl r2
    · rcases h.left q hq with hz | ⟨j, a, b, c⟩
      · exact .inl ((r3 q 2 hqp (by omega)).trans hz)
      · refine .inr ⟨j, ?_, b, c⟩
        rcases Nat.lt_or_ge i j with hij | hij
        · exact hij
        · have : j = i := by omega
          subst this
          rw [e] at c
          omega
theorem PgSt.fin {T0 T : List Int} {i : Nat} (h : PgSt T0 T i) (hi : (byUp T0 3 8).length ≤ i) : PgGone T := ⟨h.len, h.p72, fun p hp => by
  rcases h.left p hp with hz | ⟨j, a, b, _⟩
  · exact hz
  · omega⟩
/-- One more page by slot 3. -/
theorem PgOk.put {L : List Int} (h : PgOk L) {p : Nat} (hp : p < 7) : insE L p 0 3 1 = (if tG L p 2 = 0 then 0 else 4) ∧ PgOk (insL L p 0 3 1) ∧ tG (insL L p 0 3 1) p 2 ≠ 0 ∧ ∀ q : Nat, q < 7 → q ≠ p → tG (insL L p 0 3 1) q 2 = tG L q 2 := by
  have hE : insE L p 0 3 1 = if tG L p 2 = 0 then 0 else 4 := by
    have a : (!pteOk 0 3 1 || decide ((1 : Int) = 0) || !pageOk p) = false := by
      have : pteOk 0 3 1 = true := by decide
      rw [this]
      simp [pageOk]; omega
    unfold insE
    rw [a]
    by_cases h2 : tG L p 2 = 0
    · rw [if_pos h2, if_neg (by simp), if_neg (fun c => c h2)]
    · rw [if_neg h2, if_neg (by simp), if_pos h2]
  refine ⟨hE, ?_⟩
  unfold insL
  rw [hE]
  by_cases h2 : tG L p 2 = 0
  · rw [if_pos h2, if_pos rfl]
    have g := fun (q k : Nat) (hk : k < 3) => tG_set3 (T := L) (p := p) (f := 0) (s := 3) (r := 1) (q := q) (k := k) h.len (by omega) (by omega) hk
    have g2 := g p 2 (by omega)
    rw [if_pos rfl] at g2
    refine ⟨⟨by rw [tSet3_len]; exact h.len, ?_, ?_, ?_, fun q hq hq2 => ?_⟩, ?_, fun q hq hqp => ?_⟩
    · have := g 7 0 (by omega); rw [if_neg (by omega)] at this; exact this.trans h.p70
    · have := g 7 1 (by omega); rw [if_neg (by omega)] at this; exact this.trans h.p71
    · have := g 7 2 (by omega); rw [if_neg (by omega)] at this; exact this.trans h.p72
    · have a := g q 1 (by omega)
      have b := g q 2 (by omega)
      by_cases hqp : q = p
      · subst hqp; rw [if_pos rfl] at a; exact a
      · rw [if_neg (by omega)] at a b
        refine a.trans (h.slot q hq fun c => hq2 (b.trans c))
    · intro c
      have : tG (tSet3 L p 0 3 1) p 2 = 1 := g2
      rw [this] at c; cases c
    · have b := g q 2 (by omega)
      rw [if_neg (by omega)] at b; exact b
  · rw [if_neg h2, if_neg (by decide)]
    exact ⟨h, h2, fun q _ _ => rfl⟩
end Go.Sx
