/- TlbSets: what stands in a buffer's sets after fills, and which pairs were filled. -/
import Derived.Test.YtpmgfdakljjlaabGreatDoorPuB
set_option linter.unusedVariables false
set_option linter.constructorNameAsVariable false
namespace Go.Sx
/-- One more pair among the flags (e * 8 + p), their number at 32. -/
def pairW (W : List Int) (e p : Int) : List Int := (W.set (e * 8 + p).toNat 1).set 32 (W.getD 32 0 + 1 - W.getD (e * 8 + p).toNat 0)
/-- The pairs of set s among the first n. -/
def setW (E Q : List Int) (s : Int) : Nat → List Int
  | 0 => List.replicate 33 0
  | i + 1 => if (Q.getD i 0 % 8) % 4 = s then pairW (setW E Q s i) (E.getD i 0 % 4) (Q.getD i 0 % 8) else setW E Q s i
/-- The buffer after n fills. -/
def fillsB (L : List Int) (E Q : List Int) : Nat → List Int
  | 0 => L
  | i + 1 => fillB (fillsB L E Q i) (E.getD i 0 % 4) (Q.getD i 0 % 8) 0 1
def emptyAt (L : List Int) (o : Nat) : Prop := L.getD o 0 = -1 ∧ L.getD (o + 1) 0 = 0 ∧ L.getD (o + 2) 0 = 0 ∧ L.getD (o + 3) 0 = 0
structure OccAt (L W : List Int) (s o e p : Nat) : Prop where
  e4 : e < 4
  p8 : p < 8
  ps : p % 4 = s
  le : L.getD o 0 = e
  lp : L.getD (o + 1) 0 = p
  fl : W.getD (e * 8 + p) 0 = 1
/-- What set s holds, for the flags of the pairs that were filled there. -/
structure SetOk (L W : List Int) (s : Nat) : Prop where
  len : W.length = 33
  bit : ∀ j : Nat, j < 32 → W.getD j 0 = 0 ∨ W.getD j 0 = 1
  is : (W.getD 32 0 = 0 ∧ emptyAt L (s * 10) ∧ emptyAt L (s * 10 + 5) ∧ ∀ j : Nat, j < 32 → W.getD j 0 = 0) ∨
    (W.getD 32 0 = 1 ∧ (∃ e p : Nat, OccAt L W s (s * 10) e p ∧ ∀ j : Nat, j < 32 → W.getD j 0 ≠ 0 → j = e * 8 + p) ∧ emptyAt L (s * 10 + 5)) ∨
    (2 ≤ W.getD 32 0 ∧ (∃ e p : Nat, OccAt L W s (s * 10) e p) ∧ (∃ e p : Nat, OccAt L W s (s * 10 + 5) e p))
theorem getDset {L : List Int} {n q : Nat} {v : Int} (hn : n < L.length) : (L.set n v).getD q 0 = if q = n then v else L.getD q 0 := by
  simp only [List.getD, List.getElem?_set]
  by_cases h : n = q
  · subst h; simp [hn]
  · rw [if_neg h, if_neg (fun c => h c.symm)]
theorem pairW_at {W : List Int} (hW : W.length = 33) {e p : Nat} (he : e < 4) (hp : p < 8) (q : Nat) :
    (pairW W e p).length = 33 ∧ (pairW W e p).getD q 0 = if q = 32 then W.getD 32 0 + 1 - W.getD (e * 8 + p) 0 else if q = e * 8 + p then 1 else W.getD q 0 := by
  have h : ((e : Int) * 8 + p).toNat = e * 8 + p := by omega
  unfold pairW
  rw [h]
  refine ⟨by simp only [List.length_set]; exact hW, ?_⟩
  rw [getDset (by rw [List.length_set]; omega), getDset (by omega)]
/-- What a fill does to the numbers below 40, but for when. -/
theorem putB_at {L : List Int} (hL : L.length = 41) {o e p f r : Int} {n : Int} {m : Nat} (ho : o = m) (hm : m + 4 < 40) {q : Nat} (hq : q < 40) :
    (putB L o e p f r n).length = 41 ∧ (q ≠ m + 4 → (putB L o e p f r n).getD q 0 = if q = m then e else if q = m + 1 then p else if q = m + 2 then f else if q = m + 3 then r else L.getD q 0) := by
  subst ho
  have e0 : ((m : Int)).toNat = m := by omega
  have e1 : ((m : Int) + 1).toNat = m + 1 := by omega
  have e2 : ((m : Int) + 2).toNat = m + 2 := by omega
  have e3 : ((m : Int) + 3).toNat = m + 3 := by omega
  have e4 : ((m : Int) + 4).toNat = m + 4 := by omega
  unfold putB
  rw [e0, e1, e2, e3, e4]
  refine ⟨by simp only [List.length_set]; exact hL, fun h4 => ?_⟩
  have l0 : ∀ {a : Nat} {v : Int} {M : List Int}, M.length = 41 → (M.set a v).length = 41 := fun h => by rw [List.length_set]; exact h
  have q0 := l0 (a := 40) (v := n) hL
  have q1 := l0 (a := m) (v := e) q0
  have q2 := l0 (a := m + 1) (v := p) q1
  have q3 := l0 (a := m + 2) (v := f) q2
  have q4 := l0 (a := m + 3) (v := r) q3
  rw [getDset (by omega), if_neg h4, getDset (by omega), getDset (by omega), getDset (by omega), getDset (by omega), getDset (by omega), if_neg (show q ≠ 40 by omega)]
  by_cases a0 : q = m
  · subst a0; simp
  · by_cases a1 : q = m + 1
    · subst a1; simp
    · by_cases a2 : q = m + 2
      · subst a2; simp
      · by_cases a3 : q = m + 3
        · subst a3; simp
        · simp [a0, a1, a2, a3]
theorem gI_nat (L : List Int) (n : Nat) : gI L n = L.getD n 0 := rfl
theorem gI_at {L : List Int} {i : Int} {n : Nat} (h : i = n) : gI L i = L.getD n 0 := by subst h; rfl
/-- A place of set s where a fill may put its entry, and why. -/
theorem place_of {L W : List Int} {s e p : Nat} (hS : SetOk L W s) (he : e < 4) (hp : p < 8) (hs : p % 4 = s) :
    ∃ m : Nat, placeB L e p = m ∧ (m = s * 10 ∨ m = s * 10 + 5) ∧
      ((L.getD m 0 = e ∧ L.getD (m + 1) 0 = p) ∨ (¬ (L.getD (s * 10) 0 = e ∧ L.getD (s * 10 + 1) 0 = p) ∧ ¬ (L.getD (s * 10 + 5) 0 = e ∧ L.getD (s * 10 + 5 + 1) 0 = p) ∧
        (L.getD (s * 10) 0 < 0 → m = s * 10) ∧ (¬ L.getD (s * 10) 0 < 0 → L.getD (s * 10 + 5) 0 < 0 → m = s * 10 + 5))) := by
  have hb : baseB (p : Int) = ((s * 10 : Nat) : Int) := by unfold baseB; omega
  have hb5 : ((s * 10 : Nat) : Int) + 5 = ((s * 10 + 5 : Nat) : Int) := by omega
  have h0 : ¬ ((e : Int) < 0 ∨ (p : Int) < 0 ∨ 8 ≤ (p : Int)) := by omega
  have g1 : ∀ n : Nat, gI L ((n : Int) + 1) = L.getD (n + 1) 0 := fun n => gI_at (by omega)
  unfold placeB atB
  rw [if_neg h0, hb, hb5]
  unfold hitB
  rw [g1, g1, gI_nat, gI_nat]
  by_cases a : (decide (L.getD (s * 10) 0 = (e : Int)) && decide (L.getD (s * 10 + 1) 0 = (p : Int))) = true
  · rw [if_pos a, if_neg (by omega)]
    simp only [Bool.and_eq_true, decide_eq_true_eq] at a
    exact ⟨s * 10, rfl, .inl rfl, .inl a⟩
  · rw [if_neg a]
    simp only [Bool.and_eq_true, decide_eq_true_eq] at a
    by_cases b : (decide (L.getD (s * 10 + 5) 0 = (e : Int)) && decide (L.getD (s * 10 + 5 + 1) 0 = (p : Int))) = true
    · rw [if_pos b, if_neg (by omega)]
      simp only [Bool.and_eq_true, decide_eq_true_eq] at b
      exact ⟨s * 10 + 5, rfl, .inr rfl, .inl b⟩
    · rw [if_neg b, if_pos rfl]
      simp only [Bool.and_eq_true, decide_eq_true_eq] at b
      unfold roomB
      rw [hb5, gI_nat, gI_nat]
      by_cases c : L.getD (s * 10) 0 < 0
      · rw [if_pos c]; exact ⟨s * 10, rfl, .inl rfl, .inr ⟨a, b, fun _ => rfl, fun h => absurd c h⟩⟩
      · rw [if_neg c]
        by_cases d : L.getD (s * 10 + 5) 0 < 0
        · rw [if_pos d]; exact ⟨s * 10 + 5, rfl, .inr rfl, .inr ⟨a, b, fun h => absurd h c, fun _ _ => rfl⟩⟩
        · rw [if_neg d]
          by_cases f : gI L (((s * 10 : Nat) : Int) + 9) < gI L (((s * 10 : Nat) : Int) + 4)
          · rw [if_pos f]; exact ⟨s * 10 + 5, rfl, .inr rfl, .inr ⟨a, b, fun h => absurd h c, fun _ h => absurd h d⟩⟩
          · rw [if_neg f]; exact ⟨s * 10, rfl, .inl rfl, .inr ⟨a, b, fun h => absurd h c, fun _ h => absurd h d⟩⟩
theorem fillB_eq {L : List Int} {e p : Nat} (he : e < 4) (hp : p < 8) : fillB L e p 0 1 = putB L (placeB L e p) e p 0 1 (IntKind.wrap .i64 (gI L 40 + 1)) := by
  have : lineOk (e : Int) (p : Int) 0 1 = true := by
    have r : rightsB 1 = true := by decide
    simp [lineOk, r]; omega
  unfold fillB
  rw [if_pos this]
theorem SetOk.fill {L W : List Int} {s e p : Nat} (hL : L.length = 41) (hS : SetOk L W s) (h4 : s < 4) (he : e < 4) (hp : p < 8) (hs : p % 4 = s) :
    SetOk (fillB L e p 0 1) (pairW W e p) s := by
  obtain ⟨m, hm, hms, hhit⟩ := place_of hS he hp hs
  rw [fillB_eq he hp, hm]
  generalize IntKind.wrap .i64 (gI L 40 + 1) = n
  have P := fun q (hq : q < 40) => putB_at hL (o := (m : Int)) (e := (e : Int)) (p := (p : Int)) (f := 0) (r := 1) (n := n) (m := m) rfl (by omega) hq
  have Wq := pairW_at hS.len he hp
  have hep : e * 8 + p < 32 := by omega
  generalize putB L (m : Int) (e : Int) (p : Int) 0 1 n = L' at *
  generalize pairW W (e : Int) (p : Int) = W' at *
  have P0 := (P m (by omega)).2 (by omega)
  have P1 := (P (m + 1) (by omega)).2 (by omega)
  rw [if_pos rfl] at P0
  rw [if_neg (by omega), if_pos rfl] at P1
  -- the new entry
  have new : OccAt L' W' s m e p := ⟨he, hp, hs, P0, P1, by rw [(Wq _).2, if_neg (by omega), if_pos rfl]⟩
  -- an old one at the other place
  have old : ∀ {o e1 p1 : Nat}, (o = s * 10 ∨ o = s * 10 + 5) → o ≠ m → OccAt L W s o e1 p1 → OccAt L' W' s o e1 p1 := by
    intro o e1 p1 ho hom H
    have Q0 := (P o (by omega)).2 (by omega)
    have Q1 := (P (o + 1) (by omega)).2 (by omega)
    rw [if_neg (by omega), if_neg (by omega), if_neg (by omega), if_neg (by omega)] at Q0 Q1
    have := H.e4
    have := H.p8
    refine ⟨H.e4, H.p8, H.ps, Q0.trans H.le, Q1.trans H.lp, ?_⟩
    rw [(Wq _).2, if_neg (by omega)]
    split
    · rfl
    · exact H.fl
  have oldE : ∀ {o : Nat}, (o = s * 10 ∨ o = s * 10 + 5) → o ≠ m → emptyAt L o → emptyAt L' o := by
    intro o ho hom H
    have Q0 := (P o (by omega)).2 (by omega)
    have Q1 := (P (o + 1) (by omega)).2 (by omega)
    have Q2 := (P (o + 2) (by omega)).2 (by omega)
    have Q3 := (P (o + 3) (by omega)).2 (by omega)
    rw [if_neg (by omega), if_neg (by omega), if_neg (by omega), if_neg (by omega)] at Q0 Q1 Q2 Q3
    exact ⟨Q0.trans H.1, Q1.trans H.2.1, Q2.trans H.2.2.1, Q3.trans H.2.2.2⟩
  have c32 := (Wq 32).2
  rw [if_pos rfl] at c32
  have f01 := hS.bit (e * 8 + p) hep
  refine ⟨(Wq 0).1, fun j hj => ?_, ?_⟩
  · rw [(Wq j).2, if_neg (by omega)]
    split
    · exact .inr rfl
    · exact hS.bit j hj
  · rcases hS.is with ⟨w0, m1, m2, z⟩ | ⟨w1, ⟨e1, p1, H1, u1⟩, m2⟩ | ⟨w2, ⟨e1, p1, H1⟩, ⟨e2, p2, H2⟩⟩
    · -- the first entry of the set
      have hno : ¬ (L.getD m 0 = (e : Int) ∧ L.getD (m + 1) 0 = (p : Int)) := by
        rintro ⟨c, _⟩
        rcases hms with rfl | rfl
        · rw [m1.1] at c; omega
        · rw [m2.1] at c; omega
      obtain ⟨_, _, k1, _⟩ := hhit.resolve_left hno
      obtain rfl := k1 (by rw [m1.1]; omega)
      refine .inr (.inl ⟨by rw [c32, w0, z _ hep]; rfl, ⟨e, p, new, fun j hj hne => ?_⟩, oldE (.inr rfl) (by omega) m2⟩)
      rw [(Wq j).2, if_neg (by omega)] at hne
      split at hne
      · assumption
      · exact absurd (z j hj) hne
    · by_cases hsame : e = e1 ∧ p = p1
      · -- the same entry again
        obtain ⟨rfl, rfl⟩ := hsame
        have hmm : m = s * 10 := by
          rcases hhit with ⟨c, _⟩ | ⟨c, _⟩
          · rcases hms with h | h
            · exact h
            · rw [h, m2.1] at c; omega
          · exact absurd ⟨H1.le, H1.lp⟩ c
        subst hmm
        refine .inr (.inl ⟨by rw [c32, w1, H1.fl]; rfl, ⟨e, p, new, fun j hj hne => ?_⟩, oldE (.inr rfl) (by omega) m2⟩)
        rw [(Wq j).2, if_neg (by omega)] at hne
        split at hne
        · assumption
        · exact u1 j hj hne
      · have hne1 : ¬ (L.getD (s * 10) 0 = (e : Int) ∧ L.getD (s * 10 + 1) 0 = (p : Int)) := by
          rintro ⟨c1, c2⟩
          rw [H1.le] at c1
          rw [H1.lp] at c2
          exact hsame ⟨by omega, by omega⟩
        have hno : ¬ (L.getD m 0 = (e : Int) ∧ L.getD (m + 1) 0 = (p : Int)) := by
          rintro ⟨c1, c2⟩
          rcases hms with rfl | rfl
          · exact hne1 ⟨c1, c2⟩
          · rw [m2.1] at c1; omega
        obtain ⟨_, _, _, k2⟩ := hhit.resolve_left hno
        obtain rfl := k2 (by rw [H1.le]; omega) (by rw [m2.1]; omega)
        have hf : W.getD (e * 8 + p) 0 = 0 := by
          rcases f01 with h | h
          · exact h
          · have := u1 _ hep (by rw [h]; decide)
            have := H1.p8
            exact absurd ⟨by omega, by omega⟩ hsame
        exact .inr (.inr ⟨by rw [c32, w1, hf]; decide, ⟨e1, p1, old (.inl rfl) (by omega) H1⟩, ⟨e, p, new⟩⟩)
    · refine .inr (.inr ⟨?_, ?_, ?_⟩)
      · rw [c32]; rcases f01 with h | h <;> rw [h] <;> omega
      · rcases hms with rfl | rfl
        · exact ⟨e, p, new⟩
        · exact ⟨e1, p1, old (.inl rfl) (by omega) H1⟩
      · rcases hms with rfl | rfl
        · exact ⟨e2, p2, old (.inr rfl) (by omega) H2⟩
        · exact ⟨e, p, new⟩
/-- A fill of another set. -/
theorem SetOk.other {L W : List Int} {s e p : Nat} (hL : L.length = 41) (hS : SetOk L W s) (h4 : s < 4) (he : e < 4) (hp : p < 8) {s' : Nat} (hs' : p % 4 = s') (hne : s' ≠ s) (hS' : ∃ W', SetOk L W' s') :
    SetOk (fillB L e p 0 1) W s := by
  obtain ⟨W', hS'⟩ := hS'
  obtain ⟨m, hm, hms, _⟩ := place_of hS' he hp hs'
  rw [fillB_eq he hp, hm]
  generalize IntKind.wrap .i64 (gI L 40 + 1) = n
  have P := fun q (hq : q < 40) => putB_at hL (o := (m : Int)) (e := (e : Int)) (p := (p : Int)) (f := 0) (r := 1) (n := n) (m := m) rfl (by omega) hq
  generalize putB L (m : Int) (e : Int) (p : Int) 0 1 n = L' at *
  have same : ∀ q : Nat, s * 10 ≤ q → q < s * 10 + 10 → L'.getD q 0 = L.getD q 0 := by
    intro q h1 h2
    have Q := (P q (by omega)).2 (by omega)
    rw [if_neg (by omega), if_neg (by omega), if_neg (by omega), if_neg (by omega)] at Q
    exact Q
  have em : ∀ {o : Nat}, (o = s * 10 ∨ o = s * 10 + 5) → emptyAt L o → emptyAt L' o := fun ho H =>
    ⟨(same _ (by omega) (by omega)).trans H.1, (same _ (by omega) (by omega)).trans H.2.1, (same _ (by omega) (by omega)).trans H.2.2.1, (same _ (by omega) (by omega)).trans H.2.2.2⟩
  have oc : ∀ {o e1 p1 : Nat}, (o = s * 10 ∨ o = s * 10 + 5) → OccAt L W s o e1 p1 → OccAt L' W s o e1 p1 := fun ho H =>
    ⟨H.e4, H.p8, H.ps, (same _ (by omega) (by omega)).trans H.le, (same _ (by omega) (by omega)).trans H.lp, H.fl⟩
  refine ⟨hS.len, hS.bit, ?_⟩
  rcases hS.is with ⟨w0, m1, m2, z⟩ | ⟨w1, ⟨e1, p1, H1, u1⟩, m2⟩ | ⟨w2, ⟨e1, p1, H1⟩, ⟨e2, p2, H2⟩⟩
  · exact .inl ⟨w0, em (.inl rfl) m1, em (.inr rfl) m2, z⟩
  · exact .inr (.inl ⟨w1, ⟨e1, p1, oc (.inl rfl) H1, u1⟩, em (.inr rfl) m2⟩)
  · exact .inr (.inr ⟨w2, ⟨e1, p1, oc (.inl rfl) H1⟩, ⟨e2, p2, oc (.inr rfl) H2⟩⟩)
/-- The buffer and the flags of all sets. -/
structure TsOk (L : List Int) (E Q : List Int) (i : Nat) : Prop where
  len : L.length = 41
  sets : ∀ s : Nat, s < 4 → SetOk L (setW E Q s i) s
theorem rep0 (n j : Nat) : (List.replicate n (0 : Int)).getD j 0 = 0 := by
  rw [List.getD_eq_getElem?_getD, List.getElem?_replicate]; split <;> rfl
theorem TsOk.start (E Q : List Int) : TsOk (clearB (List.replicate 41 0)) E Q 0 := by
  have z : ∀ s : Int, ∀ j : Nat, j < 32 → (setW E Q s 0).getD j 0 = 0 := fun s j hj => rep0 33 j
  refine ⟨by decide, fun s hs => ⟨rfl, fun j hj => .inl (z s j hj), .inl ?_⟩⟩
  have h : s = 0 ∨ s = 1 ∨ s = 2 ∨ s = 3 := by omega
  rcases h with rfl | rfl | rfl | rfl <;> exact ⟨rfl, by unfold emptyAt; decide, by unfold emptyAt; decide, z _⟩
theorem TsOk.next {L E Q : List Int} {i : Nat} (h : TsOk L E Q i) : TsOk (fillB L (E.getD i 0 % 4) (Q.getD i 0 % 8) 0 1) E Q (i + 1) := by
  obtain ⟨e, he⟩ : ∃ e : Nat, E.getD i 0 % 4 = e := ⟨(E.getD i 0 % 4).toNat, by omega⟩
  obtain ⟨p, hp⟩ : ∃ p : Nat, Q.getD i 0 % 8 = p := ⟨(Q.getD i 0 % 8).toNat, by omega⟩
  have e4 : e < 4 := by omega
  have p8 : p < 8 := by omega
  rw [he, hp]
  refine ⟨?_, fun s hs => ?_⟩
  · obtain ⟨m, hm, hms, _⟩ := place_of (h.sets (p % 4) (by omega)) e4 p8 rfl
    rw [fillB_eq e4 p8, hm]
    exact (putB_at h.len (m := m) rfl (by omega) (q := 0) (by omega)).1
  · rw [setW, hp, he]
    by_cases hps : p % 4 = s
    · rw [if_pos (by omega)]
      exact (h.sets s hs).fill h.len hs e4 p8 hps
    · rw [if_neg (by omega)]
      exact (h.sets s hs).other h.len hs e4 p8 rfl hps ⟨_, h.sets (p % 4) (by omega)⟩
/-- How many of a set's first two places are taken. -/
def occN (L : List Int) (s : Nat) : Nat → Int
  | 0 => 0
  | 1 => if 0 ≤ L.getD (s * 10) 0 then 1 else 0
  | _ => (if 0 ≤ L.getD (s * 10) 0 then 1 else 0) + (if 0 ≤ L.getD (s * 10 + 5) 0 then 1 else 0)
theorem occN0 (L : List Int) (s : Nat) : occN L s 0 = 0 := rfl
theorem occN1 (L : List Int) (s : Nat) : occN L s 1 = if 0 ≤ L.getD (s * 10) 0 then 1 else 0 := rfl
theorem occN2 (L : List Int) (s : Nat) : occN L s 2 = (if 0 ≤ L.getD (s * 10) 0 then 1 else 0) + (if 0 ≤ L.getD (s * 10 + 5) 0 then 1 else 0) := rfl
theorem SetOk.occ {L W : List Int} {s : Nat} (h : SetOk L W s) : occN L s 2 = if W.getD 32 0 ≤ 2 then W.getD 32 0 else 2 := by
  rw [occN2]
  rcases h.is with ⟨w0, m1, m2, z⟩ | ⟨w1, ⟨e1, p1, H1, u1⟩, m2⟩ | ⟨w2, ⟨e1, p1, H1⟩, ⟨e2, p2, H2⟩⟩
  · rw [m1.1, m2.1, w0]; decide
  · rw [H1.le, m2.1, w1, if_pos (by omega)]; decide
  · rw [H1.le, H2.le, if_pos (by omega), if_pos (by omega)]; split <;> omega
/-- The counts of the sets after the first k places. -/
structure CntOk (L N : List Int) (k : Nat) : Prop where
  len : N.length = 16
  cnt : ∀ s : Nat, s < 4 → N.getD s 0 = occN L s (min 2 (k - 2 * s))
/-- The place k: empty, or an entry of its set. -/
theorem TsOk.line {L E Q : List Int} {i k : Nat} (h : TsOk L E Q i) (hk : k < 8) :
    (L.getD (k * 5) 0 = -1 ∧ L.getD (k * 5 + 1) 0 = 0 ∧ L.getD (k * 5 + 2) 0 = 0 ∧ L.getD (k * 5 + 3) 0 = 0) ∨ (0 ≤ L.getD (k * 5) 0 ∧ 0 ≤ L.getD (k * 5 + 1) 0 ∧ L.getD (k * 5 + 1) 0 < 8 ∧ L.getD (k * 5 + 1) 0 % 4 = (k / 2 : Nat)) := by
  have hS := h.sets (k / 2) (by omega)
  have occ : ∀ {o e p : Nat}, OccAt L (setW E Q (k / 2 : Nat) i) (k / 2) o e p → 0 ≤ L.getD o 0 ∧ 0 ≤ L.getD (o + 1) 0 ∧ L.getD (o + 1) 0 < 8 ∧ L.getD (o + 1) 0 % 4 = (k / 2 : Nat) := fun H => by
    have := H.p8
    have := H.ps
    rw [H.le, H.lp]; omega
  by_cases hk2 : k % 2 = 0
  · have e : k * 5 = k / 2 * 10 := by omega
    rw [e]
    rcases hS.is with ⟨w0, m1, m2, z⟩ | ⟨w1, ⟨e1, p1, H1, u1⟩, m2⟩ | ⟨w2, ⟨e1, p1, H1⟩, ⟨e2, p2, H2⟩⟩
    · exact .inl m1
    · exact .inr (occ H1)
    · exact .inr (occ H1)
  · have e : k * 5 = k / 2 * 10 + 5 := by omega
    rw [e]
    rcases hS.is with ⟨w0, m1, m2, z⟩ | ⟨w1, ⟨e1, p1, H1, u1⟩, m2⟩ | ⟨w2, ⟨e1, p1, H1⟩, ⟨e2, p2, H2⟩⟩
    · exact .inl m2
    · exact .inl m2
    · exact .inr (occ H2)
theorem CntOk.start (L : List Int) : CntOk L (List.replicate 16 0) 0 := ⟨rfl, fun s hs => by
  have : min 2 (0 - 2 * s) = 0 := by omega
  rw [this, occN0]
  exact rep0 16 s⟩
theorem CntOk.skip {L N : List Int} {k : Nat} (h : CntOk L N k) (hk : k < 8) (he : L.getD (k * 5) 0 < 0) : CntOk L N (k + 1) := ⟨h.len, fun s hs => by
  rw [h.cnt s hs]
  by_cases h1 : k / 2 = s
  · by_cases hk2 : k % 2 = 0
    · have e : k * 5 = s * 10 := by omega
      rw [e] at he
      have a : min 2 (k - 2 * s) = 0 := by omega
      have b : min 2 (k + 1 - 2 * s) = 1 := by omega
      rw [a, b, occN0, occN1, if_neg (by omega)]
    · have e : k * 5 = s * 10 + 5 := by omega
      rw [e] at he
      have a : min 2 (k - 2 * s) = 1 := by omega
      have b : min 2 (k + 1 - 2 * s) = 2 := by omega
      rw [a, b, occN1, occN2, if_neg (show ¬ 0 ≤ L.getD (s * 10 + 5) 0 by omega)]; omega
  · have : min 2 (k + 1 - 2 * s) = min 2 (k - 2 * s) := by omega
    rw [this]⟩
theorem CntOk.hit {L N : List Int} {k : Nat} (h : CntOk L N k) (hk : k < 8) (he : 0 ≤ L.getD (k * 5) 0) : CntOk L (N.set (k / 2) (N.getD (k / 2) 0 + 1)) (k + 1) := by
  refine ⟨by rw [List.length_set]; exact h.len, fun s hs => ?_⟩
  rw [getDset (by rw [h.len]; omega)]
  by_cases h1 : s = k / 2
  · rw [if_pos h1, h.cnt _ (by omega)]
    subst h1
    by_cases hk2 : k % 2 = 0
    · have e : k * 5 = k / 2 * 10 := by omega
      rw [e] at he
      have a : min 2 (k - 2 * (k / 2)) = 0 := by omega
      have b : min 2 (k + 1 - 2 * (k / 2)) = 1 := by omega
      rw [a, b, occN0, occN1, if_pos he]; rfl
    · have e : k * 5 = k / 2 * 10 + 5 := by omega
      rw [e] at he
      have a : min 2 (k - 2 * (k / 2)) = 1 := by omega
      have b : min 2 (k + 1 - 2 * (k / 2)) = 2 := by omega
      rw [a, b, occN1, occN2, if_pos he]
  · rw [if_neg h1, h.cnt s hs]
    have : min 2 (k + 1 - 2 * s) = min 2 (k - 2 * s) := by omega
    rw [this]
theorem CntOk.le {L N : List Int} {k : Nat} (h : CntOk L N k) {s : Nat} (hs : s < 4) : 0 ≤ N.getD s 0 ∧ N.getD s 0 ≤ 2 := by
  rw [h.cnt s hs]
  have : min 2 (k - 2 * s) = 0 ∨ min 2 (k - 2 * s) = 1 ∨ min 2 (k - 2 * s) = 2 := by omega
  rcases this with e | e | e
  · rw [e, occN0]; omega
  · rw [e, occN1]; split <;> omega
  · rw [e, occN2]; split <;> split <;> omega
/-- All eight places counted: each set's number is that of its pairs, two at most. -/
theorem TsOk.counts {L E Q N : List Int} {i : Nat} (h : TsOk L E Q i) (hN : CntOk L N 8) {s : Nat} (hs : s < 4) :
    N.getD s 0 = if (setW E Q s i).getD 32 0 ≤ 2 then (setW E Q s i).getD 32 0 else 2 := by
  rw [hN.cnt s hs, show min 2 (8 - 2 * s) = 2 by omega]
  exact (h.sets s hs).occ
end Go.Sx
