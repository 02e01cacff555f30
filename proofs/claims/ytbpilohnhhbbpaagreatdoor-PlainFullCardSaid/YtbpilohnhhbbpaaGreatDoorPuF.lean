/- PlainFull: capabilities that all come from one, in any order. -/
import Derived.Test.YtbpilohnhhbbpaaGreatDoorPuC
set_option linter.unusedVariables false
set_option linter.constructorNameAsVariable false
namespace Go.Sx
/-- n capabilities of frame 0 in the first environment, each but the first derived from one ahead of it. -/
structure FS (n : Nat) (L : List Int) : Prop where
  len : (L.length : Int) = 2 * 32
  n1 : 1 ≤ n
  n8 : n ≤ 8
  cap : ∀ k : Nat, k < n → cG L 0 k 0 = 0 ∧ cG L 0 k 1 = 3
  root : cG L 0 0 2 = -1
  par : ∀ k : Nat, 0 < k → k < n → cG L 0 k 2 = 0 ∧ ∃ j : Nat, j < k ∧ cG L 0 k 3 = j
  free : ∀ k : Nat, n ≤ k → k < 8 → cG L 0 k 1 = 0
  other : ∀ k : Nat, k < 8 → cG L 1 k 1 = 0
theorem FS.und {n : Nat} {L : List Int} (h : FS n L) : ∀ (k fuel : Nat), k < n → k < fuel → undC L 0 0 fuel 3 (cG L 0 k 2) (cG L 0 k 3) = decide (0 < k) := by
  intro k
  induction k using Nat.strongRecOn with
  | _ k ih =>
    intro fuel hk hf
    obtain ⟨m, rfl⟩ : ∃ m, fuel = m + 1 := ⟨fuel - 1, by omega⟩
    rw [undC_succ]
    by_cases h0 : k = 0
    · subst h0
      have := h.root
      rw [if_pos (.inr (by rw [show ((0 : Nat) : Int) = 0 from rfl, this]; decide))]; rfl
    · obtain ⟨p1, j, hj, p2⟩ := h.par k (by omega) hk
      rw [if_neg (by rw [p1]; decide), p1, p2]
      by_cases hj0 : j = 0
      · subst hj0
        rw [if_pos ⟨rfl, rfl⟩]; simp; omega
      · rw [if_neg (by omega), (h.cap j (by omega)).2, ih j hj m (by omega) (by omega)]
        simp; omega
/-- No chain leads to a place that is behind it. -/
theorem not_und {n : Nat} {L : List Int} (hcap : ∀ k : Nat, k < n → cG L 0 k 1 = 3) (hroot : cG L 0 0 2 = -1) (hpar : ∀ k : Nat, 0 < k → k < n → cG L 0 k 2 = 0 ∧ ∃ j : Nat, j < k ∧ cG L 0 k 3 = j) {e s : Int} :
    ∀ (k fuel : Nat), k < n → ¬ (e = 0 ∧ s < k) → undC L e s fuel 3 (cG L 0 k 2) (cG L 0 k 3) = false := by
  intro k
  induction k using Nat.strongRecOn with
  | _ k ih =>
    intro fuel hk hs
    cases fuel with
    | zero => rfl
    | succ m =>
      rw [undC_succ]
      by_cases h0 : k = 0
      · subst h0
        rw [if_pos (.inr (by rw [show ((0 : Nat) : Int) = 0 from rfl, hroot]; decide))]
      · obtain ⟨p1, j, hj, p2⟩ := hpar k (by omega) hk
        rw [if_neg (by rw [p1]; decide), p1, p2, if_neg (fun c => hs ⟨c.1.symm, by omega⟩), hcap j (by omega)]
        exact ih j hj m (by omega) (fun c => hs ⟨c.1, by omega⟩)
/-- The places but the first one. -/
def plK : Nat → List Int
  | 0 => []
  | m + 1 => if 0 < m then plK m ++ [0, (m : Int)] else plK m
theorem plK_len : ∀ n : Nat, (plK n).length = 2 * (n - 1)
  | 0 => rfl
  | m + 1 => by
    rw [plK]
    split
    · rw [List.length_append, plK_len m]; simp only [List.length_cons, List.length_nil]; omega
    · rw [plK_len m]; omega
theorem plK_at : ∀ (n k : Nat), k + 1 < n → (plK n).getD (2 * k) 0 = 0 ∧ (plK n).getD (2 * k + 1) 0 = (k : Int) + 1
  | 0, k, h => by omega
  | m + 1, k, h => by
    rw [plK, if_pos (by omega)]
    by_cases hk : k + 1 < m
    · have := plK_at m k hk
      have hl := plK_len m
      rw [getD_left (by omega), getD_left (by omega)]; exact this
    · have hl := plK_len m
      have e1 : 2 * k - (plK m).length = 0 := by omega
      have e2 : 2 * k + 1 - (plK m).length = 1 := by omega
      rw [getD_right (by omega), getD_right (by omega), e1, e2]
      refine ⟨rfl, ?_⟩
      show (m : Int) = k + 1
      omega
theorem rowC_none {q : Int → Int → Bool} {e : Int} (h : ∀ k : Nat, k < 8 → q e k = false) : ∀ m : Nat, m ≤ 8 → rowC q e m = []
  | 0, _ => rfl
  | m + 1, hm => by rw [rowC_succ, h m (by omega)]; exact rowC_none h m (by omega)
theorem rowC_pl {q : Int → Int → Bool} {n : Nat} (hn : n ≤ 8) (h : ∀ k : Nat, k < 8 → q 0 k = (decide (0 < k) && decide (k < n))) : ∀ m : Nat, m ≤ 8 → rowC q 0 m = plK (min m n)
  | 0, _ => by rw [Nat.zero_min]; rfl
  | m + 1, hm => by
    rw [rowC_succ, h m (by omega), rowC_pl hn h m (by omega)]
    by_cases h1 : m < n
    · have e1 : min (m + 1) n = m + 1 := by omega
      have e2 : min m n = m := by omega
      rw [e1, e2, plK]
      simp [h1]
    · have e1 : min (m + 1) n = n := by omega
      have e2 : min m n = n := by omega
      rw [e1, e2]
      simp [h1]
theorem FS.below {n : Nat} {L : List Int} (h : FS n L) : belowL 2 L 0 0 = plK n := by
  have q1 : ∀ k : Nat, k < 8 → qBelow L 0 0 1 k = false := fun k hk => by unfold qBelow; rw [h.other k hk]; rfl
  have q0 : ∀ k : Nat, k < 8 → qBelow L 0 0 0 k = (decide (0 < k) && decide (k < n)) := fun k hk => by
    unfold qBelow
    by_cases hn : k < n
    · rw [(h.cap k hn).2, h.und k 33 hn (by omega)]
      simp [hn]
    · rw [h.free k (by omega) hk]
      simp [hn]
  show selC (qBelow L 0 0) 2 = _
  rw [selC_succ, selC_succ]
  show ([] ++ rowC (qBelow L 0 0) 0 8) ++ rowC (qBelow L 0 0) 1 8 = _
  rw [rowC_none q1 8 (by omega), rowC_pl h.n8 q0 8 (by omega), List.nil_append, List.append_nil]
  congr 1
  have := h.n8
  omega
/-- Places emptied. -/
theorem FS.emptied {n : Nat} {L : List Int} (h : FS n L) : ∀ m : Nat, m < n → ((emptyK L (plK n) m).length : Int) = 2 * 32 ∧ ∀ (e s i : Nat), e < 2 → s < 8 → i < 4 → cG (emptyK L (plK n) m) e s i = if e = 0 ∧ 1 ≤ s ∧ s ≤ m then 0 else cG L e s i
  | 0, _ => ⟨h.len, fun e s i _ _ _ => by rw [if_neg (by omega)]; rfl⟩
  | m + 1, hm => by
    obtain ⟨ih1, ih2⟩ := FS.emptied h m (by omega)
    have hp := plK_at n m (by omega)
    have hn := h.n8
    refine ⟨by rw [emptyK_len]; exact h.len, fun e s i he hs hi => ?_⟩
    rw [emptyK, hp.1, hp.2, cG_set ih1 (by omega) (by omega) (by omega) (by omega) (by omega) (by omega) (by omega) hi]
    by_cases hc : (e : Int) = 0 ∧ (s : Int) = (m : Int) + 1
    · rw [if_pos hc, if_pos (by omega)]
      have : i = 0 ∨ i = 1 ∨ i = 2 ∨ i = 3 := by omega
      rcases this with rfl | rfl | rfl | rfl <;> rfl
    · rw [if_neg hc, ih2 e s i he hs hi]
      by_cases h2 : e = 0 ∧ 1 ≤ s ∧ s ≤ m
      · rw [if_pos h2, if_pos (by omega)]
      · rw [if_neg h2, if_neg (by omega)]
theorem rights3 : rightsB 3 = true := rfl
theorem rights1 : rightsB 1 = true := rfl
theorem within33 : withinB 3 3 = true := by decide
theorem within13 : withinB 1 3 = true := by decide
theorem FS.der {n src : Nat} {L : List Int} (h : FS n L) (hn : n < 8) (hs : src < n) : derE 2 L 0 src 0 n 3 = 0 ∧ derL 2 L 0 src 0 n 3 = cSet L 0 n 0 3 0 src ∧ FS (n + 1) (cSet L 0 n 0 3 0 src) := by
  have hp1 : plOk 2 0 (src : Int) = true := by simp [plOk]; omega
  have hp2 : plOk 2 0 (n : Int) = true := by simp [plOk]; omega
  have hE : derE 2 L 0 src 0 n 3 = 0 := by
    unfold derE
    rw [hp1, hp2, rights3, (h.cap src hs).2, h.free n (Nat.le_refl n) hn, within33]; rfl
  have hL : derL 2 L 0 src 0 n 3 = cSet L 0 n 0 3 0 src := by unfold derL; rw [if_pos hE, (h.cap src hs).1]
  refine ⟨hE, hL, ?_⟩
  have g := fun (e s i : Nat) (he : e < 2) (hs : s < 8) (hi : i < 4) => cG_set (L := L) (n := 2) (e := 0) (s := n) (f := 0) (r := 3) (pe := 0) (ps := src) (e' := e) (s' := s) (k := i) h.len (by omega) (by omega) (by omega) (by omega) (by omega) (by omega) (by omega) hi
  refine ⟨by rw [cSet_len]; exact h.len, by omega, by omega, fun k hk => ?_, ?_, fun k hk0 hk => ?_, fun k hk hk8 => ?_, fun k hk => ?_⟩
  · by_cases hc : k = n
    · subst hc
      have a := g 0 k 0 (by omega) hn (by omega)
      have b := g 0 k 1 (by omega) hn (by omega)
      rw [if_pos ⟨rfl, rfl⟩] at a b
      exact ⟨a, b⟩
    · have a := g 0 k 0 (by omega) (by omega) (by omega)
      have b := g 0 k 1 (by omega) (by omega) (by omega)
      rw [if_neg (by omega)] at a b
      have := h.cap k (by omega)
      exact ⟨a.trans this.1, b.trans this.2⟩
  · have a := g 0 0 2 (by omega) (by omega) (by omega)
    have := h.n1
    rw [if_neg (by omega)] at a
    exact a.trans h.root
  · by_cases hc : k = n
    · subst hc
      have a := g 0 k 2 (by omega) hn (by omega)
      have b := g 0 k 3 (by omega) hn (by omega)
      rw [if_pos ⟨rfl, rfl⟩] at a b
      exact ⟨a, src, hs, b⟩
    · have a := g 0 k 2 (by omega) (by omega) (by omega)
      have b := g 0 k 3 (by omega) (by omega) (by omega)
      rw [if_neg (by omega)] at a b
      obtain ⟨p1, j, hj, p2⟩ := h.par k hk0 (by omega)
      exact ⟨a.trans p1, j, hj, b.trans p2⟩
  · have a := g 0 k 1 (by omega) hk8 (by omega)
    rw [if_neg (by omega)] at a
    exact a.trans (h.free k (by omega) hk8)
  · have a := g 1 k 1 (by omega) hk (by omega)
    rw [if_neg (by omega)] at a
    exact a.trans (h.other k hk)
/-- The eighth one, and gone again. -/
theorem FS.eighth {L : List Int} (h : FS 8 L) : dropL 2 L 0 7 = [0, 7] ∧ FS 7 (emptyC L [0, 7]) := by
  have q0 : ∀ k : Nat, k < 7 → qDrop L 0 7 0 k = false := fun k hk => by
    unfold qDrop
    rw [(h.cap k (by omega)).2, not_und (fun k hk => (h.cap k hk).2) h.root h.par k 33 (by omega) (by omega)]
    simp; omega
  have q7 : qDrop L 0 7 0 (7 : Nat) = true := by
    unfold qDrop
    rw [(h.cap 7 (by omega)).2]; rfl
  have q1 : ∀ k : Nat, k < 8 → qDrop L 0 7 1 k = false := fun k hk => by unfold qDrop; rw [h.other k hk]; rfl
  have r7 : ∀ m : Nat, m ≤ 7 → rowC (qDrop L 0 7) 0 m = [] := by
    intro m hm
    induction m with
    | zero => rfl
    | succ m ih => rw [rowC_succ, q0 m (by omega)]; exact ih (by omega)
  constructor
  · show selC (qDrop L 0 7) 2 = _
    rw [selC_succ, selC_succ]
    show ([] ++ rowC (qDrop L 0 7) 0 8) ++ rowC (qDrop L 0 7) 1 8 = _
    rw [rowC_none q1 8 (by omega), rowC_succ, q7, if_pos rfl, r7 7 (by omega)]; rfl
  · have e : emptyC L [0, 7] = cSet L 0 7 0 0 0 0 := rfl
    rw [e]
    have g := fun (e s i : Nat) (he : e < 2) (hs : s < 8) (hi : i < 4) => cG_set (L := L) (n := 2) (e := 0) (s := 7) (f := 0) (r := 0) (pe := 0) (ps := 0) (e' := e) (s' := s) (k := i) h.len (by omega) (by omega) (by omega) (by omega) (by omega) (by omega) (by omega) hi
    refine ⟨by rw [cSet_len]; exact h.len, by omega, by omega, fun k hk => ?_, ?_, fun k hk0 hk => ?_, fun k hk hk8 => ?_, fun k hk => ?_⟩
    · have a := g 0 k 0 (by omega) (by omega) (by omega)
      have b := g 0 k 1 (by omega) (by omega) (by omega)
      rw [if_neg (by omega)] at a b
      have := h.cap k (by omega)
      exact ⟨a.trans this.1, b.trans this.2⟩
    · have a := g 0 0 2 (by omega) (by omega) (by omega)
      rw [if_neg (by omega)] at a
      exact a.trans h.root
    · have a := g 0 k 2 (by omega) (by omega) (by omega)
      have b := g 0 k 3 (by omega) (by omega) (by omega)
      rw [if_neg (by omega)] at a b
      obtain ⟨p1, j, hj, p2⟩ := h.par k hk0 (by omega)
      exact ⟨a.trans p1, j, hj, b.trans p2⟩
    · have : k = 7 := by omega
      subst this
      have a := g 0 7 1 (by omega) (by omega) (by omega)
      rw [if_pos ⟨rfl, rfl⟩] at a
      exact a
    · have a := g 1 k 1 (by omega) hk (by omega)
      rw [if_neg (by omega)] at a
      exact a.trans (h.other k hk)
/-- One granted to the other environment, and gone again. -/
theorem FS.grant {L : List Int} (h : FS 7 L) : derE 2 L 0 0 1 0 1 = 0 ∧ derL 2 L 0 0 1 0 1 = cSet L 1 0 0 1 0 0 ∧ dropL 2 (cSet L 1 0 0 1 0 0) 1 0 = [1, 0] ∧ FS 7 (emptyC (cSet L 1 0 0 1 0 0) [1, 0]) := by
  have c0 := h.cap 0 (by omega)
  have o0 := h.other 0 (by omega)
  rw [show ((0 : Nat) : Int) = 0 from rfl] at c0 o0
  have hE : derE 2 L 0 0 1 0 1 = 0 := by
    unfold derE
    rw [c0.2, o0, within13]; rfl
  have hL : derL 2 L 0 0 1 0 1 = cSet L 1 0 0 1 0 0 := by unfold derL; rw [if_pos hE, c0.1]
  have g := fun (e s i : Nat) (he : e < 2) (hs : s < 8) (hi : i < 4) => cG_set (L := L) (n := 2) (e := 1) (s := 0) (f := 0) (r := 1) (pe := 0) (ps := 0) (e' := e) (s' := s) (k := i) h.len (by omega) (by omega) (by omega) (by omega) (by omega) (by omega) (by omega) hi
  generalize hM : cSet L 1 0 0 1 0 0 = M at *
  have lenM : (M.length : Int) = 2 * 32 := by rw [← hM, cSet_len]; exact h.len
  have g0 : ∀ s i : Nat, s < 8 → i < 4 → cG M 0 s i = cG L 0 s i := fun s i hs hi => by have := g 0 s i (by omega) hs hi; rw [if_neg (by omega)] at this; exact this
  have q0 : ∀ k : Nat, k < 8 → qDrop M 1 0 0 k = false := fun k hk => by
    unfold qDrop
    by_cases hk7 : k < 7
    · have e1 : cG M 0 k 1 = 3 := (g0 k 1 hk (by omega)).trans (h.cap k hk7).2
      rw [e1, not_und (n := 7) (fun k hk => (g0 k 1 (by omega) (by omega)).trans (h.cap k hk).2) ((g0 0 2 (by omega) (by omega)).trans h.root) (fun k a b => by
        obtain ⟨p1, j, hj, p2⟩ := h.par k a b
        exact ⟨(g0 k 2 (by omega) (by omega)).trans p1, j, hj, (g0 k 3 (by omega) (by omega)).trans p2⟩) k 33 hk7 (by omega)]
      simp
    · have e1 : cG M 0 k 1 = 0 := (g0 k 1 hk (by omega)).trans (h.free k (by omega) hk)
      rw [e1]; rfl
  have o1 : ∀ k : Nat, 0 < k → k < 8 → cG M 1 k 1 = 0 := fun k h0 hk => by have := g 1 k 1 (by omega) hk (by omega); rw [if_neg (by omega)] at this; exact this.trans (h.other k hk)
  have q10 : qDrop M 1 0 1 (0 : Nat) = true := by
    have := g 1 0 1 (by omega) (by omega) (by omega)
    rw [if_pos ⟨rfl, rfl⟩] at this
    unfold qDrop
    rw [show cG M 1 ((0 : Nat) : Int) 1 = 1 from this]; rfl
  have r1 : ∀ m : Nat, 1 ≤ m → m ≤ 8 → rowC (qDrop M 1 0) 1 m = [1, 0] := by
    intro m
    induction m with
    | zero => intro h; omega
    | succ m ih =>
      intro _ hm
      rw [rowC_succ]
      by_cases h0 : m = 0
      · subst h0; rw [q10]; rfl
      · have : qDrop M 1 0 1 (m : Int) = false := by unfold qDrop; rw [o1 m (by omega) (by omega)]; rfl
        rw [this]
        exact ih (by omega) (by omega)
  refine ⟨hE, hL, ?_, ?_⟩
  · show selC (qDrop M 1 0) 2 = _
    rw [selC_succ, selC_succ]
    show ([] ++ rowC (qDrop M 1 0) 0 8) ++ rowC (qDrop M 1 0) 1 8 = _
    rw [rowC_none q0 8 (by omega), r1 8 (by omega) (by omega)]; rfl
  · have e : emptyC M [1, 0] = cSet M 1 0 0 0 0 0 := rfl
    rw [e]
    have k := fun (e s i : Nat) (he : e < 2) (hs : s < 8) (hi : i < 4) => cG_set (L := M) (n := 2) (e := 1) (s := 0) (f := 0) (r := 0) (pe := 0) (ps := 0) (e' := e) (s' := s) (k := i) lenM (by omega) (by omega) (by omega) (by omega) (by omega) (by omega) (by omega) hi
    have k0 : ∀ s i : Nat, s < 8 → i < 4 → cG (cSet M 1 0 0 0 0 0) 0 s i = cG L 0 s i := fun s i hs hi => by have := k 0 s i (by omega) hs hi; rw [if_neg (by omega)] at this; exact this.trans (g0 s i hs hi)
    refine ⟨by rw [cSet_len]; exact lenM, by omega, by omega, fun j hj => ⟨(k0 j 0 (by omega) (by omega)).trans (h.cap j hj).1, (k0 j 1 (by omega) (by omega)).trans (h.cap j hj).2⟩, (k0 0 2 (by omega) (by omega)).trans h.root, fun j a b => ?_, fun j a b => (k0 j 1 b (by omega)).trans (h.free j a b), fun j hj => ?_⟩
    · obtain ⟨p1, i, hi, p2⟩ := h.par j a b
      exact ⟨(k0 j 2 (by omega) (by omega)).trans p1, i, hi, (k0 j 3 (by omega) (by omega)).trans p2⟩
    · have := k 1 j 1 (by omega) hj (by omega)
      by_cases h0 : j = 0
      · subst h0; rw [if_pos ⟨rfl, rfl⟩] at this; exact this
      · rw [if_neg (by omega)] at this; exact this.trans (o1 j (by omega) hj)
/-- All below the first one gone, then the first one. -/
theorem FS.drop {n : Nat} {L : List Int} (h : FS n L) : dropL 2 (emptyC L (plK n)) 0 0 = [0, 0] := by
  have hl := plK_len n
  have h1 := h.n1
  have hm : (plK n).length / 2 = n - 1 := by omega
  obtain ⟨e1, e2⟩ := FS.emptied h (n - 1) (by omega)
  unfold emptyC
  rw [hm]
  generalize emptyK L (plK n) (n - 1) = M at *
  have r : ∀ e s : Nat, e < 2 → s < 8 → cG M e s 1 = if e = 0 ∧ s = 0 then 3 else 0 := fun e s he hs => by
    refine (e2 e s 1 he hs (by omega)).trans ?_
    by_cases c : e = 0 ∧ s = 0
    · obtain ⟨rfl, rfl⟩ := c
      rw [if_neg (by omega), if_pos ⟨rfl, rfl⟩]; exact (h.cap 0 (by omega)).2
    · rw [if_neg c]
      by_cases c2 : e = 0 ∧ 1 ≤ s ∧ s ≤ n - 1
      · rw [if_pos c2]
      · rw [if_neg c2]
        by_cases he0 : e = 0
        · subst he0; exact h.free s (by omega) hs
        · have : e = 1 := by omega
          subst this; exact h.other s hs
  have q0 : ∀ k : Nat, k < 8 → qDrop M 0 0 0 k = decide (k = 0) := fun k hk => by
    have := r 0 k (by omega) hk
    unfold qDrop
    by_cases h0 : k = 0
    · subst h0
      rw [if_pos ⟨rfl, rfl⟩] at this
      rw [show cG M 0 ((0 : Nat) : Int) 1 = 3 from this]; rfl
    · rw [if_neg (fun c => h0 c.2)] at this
      rw [show cG M 0 (k : Int) 1 = 0 from this]; simp [h0]
  have q1 : ∀ k : Nat, k < 8 → qDrop M 0 0 1 k = false := fun k hk => by
    have := r 1 k (by omega) hk
    rw [if_neg (by omega)] at this
    unfold qDrop
    rw [show cG M 1 (k : Int) 1 = 0 from this]; rfl
  have r1 : ∀ m : Nat, 1 ≤ m → m ≤ 8 → rowC (qDrop M 0 0) 0 m = [0, 0] := by
    intro m
    induction m with
    | zero => intro h; omega
    | succ m ih =>
      intro _ hm
      rw [rowC_succ, q0 m (by omega)]
      by_cases h0 : m = 0
      · subst h0; rfl
      · rw [decide_eq_false h0]; exact ih (by omega) (by omega)
  show selC (qDrop M 0 0) 2 = _
  rw [selC_succ, selC_succ]
  show ([] ++ rowC (qDrop M 0 0) 0 8) ++ rowC (qDrop M 0 0) 1 8 = _
  rw [r1 8 (by omega) (by omega), rowC_none q1 8 (by omega)]; rfl
/-- One more is derived from one that is there. -/
def FPre (L R : List Int) (src to : Int) : Prop := ∃ n s : Nat, FS n L ∧ n ≤ 7 ∧ R = [(n : Int), 0] ∧ s < n ∧ src = s ∧ to = n
def FPost (L R : List Int) (to e : Int) (L' R' : List Int) : Prop := ∀ n : Nat, FS n L → R = [(n : Int), 0] → to = n → (n < 7 → e = 0 ∧ FS (n + 1) L' ∧ R' = [(n : Int) + 1, 0]) ∧ (n = 7 → e = 6 ∧ FS 7 L' ∧ R' = [7, 0])
theorem FS.cv {n : Nat} {L : List Int} (h : FS n L) : CV 2 L := by
  have hn := h.n8
  have ends : ∀ (k fuel : Nat), k < n → k < fuel → endC L fuel 3 (cG L 0 k 2) (cG L 0 k 3) = true := by
    intro k
    induction k using Nat.strongRecOn with
    | _ k ih =>
      intro fuel hk hf
      obtain ⟨m, rfl⟩ : ∃ m, fuel = m + 1 := ⟨fuel - 1, by omega⟩
      rw [endC_succ]
      by_cases h0 : k = 0
      · subst h0
        have := h.root
        rw [if_pos (.inr (by rw [show ((0 : Nat) : Int) = 0 from rfl, this]; decide))]
      · obtain ⟨p1, j, hj, p2⟩ := h.par k (by omega) hk
        rw [if_neg (by rw [p1]; decide), p1, p2, (h.cap j (by omega)).2]
        exact ih j hj m (by omega) (by omega)
  have zero : ∀ (pe ps : Int), endC L 33 0 pe ps = true := fun pe ps => by rw [endC_succ, if_pos (.inl rfl)]
  refine ⟨h.len, fun e s e0 e2 s0 s8 h1 h2 => ?_, fun e s e0 e2 s0 s8 => ?_⟩
  · obtain ⟨k, rfl⟩ : ∃ k : Nat, s = k := ⟨s.toNat, by omega⟩
    by_cases he : e = 0
    · subst he
      by_cases hk : k < n
      · by_cases hk0 : k = 0
        · subst hk0
          have := h.root
          rw [show ((0 : Nat) : Int) = 0 from rfl, this] at h2
          omega
        · obtain ⟨p1, j, hj, p2⟩ := h.par k (by omega) hk
          rw [p1, p2]; omega
      · exact absurd (h.free k (by omega) (by omega)) h1
    · have : e = 1 := by omega
      subst this
      exact absurd (h.other k (by omega)) h1
  · obtain ⟨k, rfl⟩ : ∃ k : Nat, s = k := ⟨s.toNat, by omega⟩
    by_cases he : e = 0
    · subst he
      by_cases hk : k < n
      · rw [(h.cap k hk).2]; exact ends k 33 hk (by omega)
      · rw [h.free k (by omega) (by omega)]; exact zero _ _
    · have : e = 1 := by omega
      subst this
      rw [h.other k (by omega)]; exact zero _ _
/-- Its chains end. -/
theorem ends_of {n : Nat} {L : List Int} (hcap : ∀ k : Nat, k < n → cG L 0 k 1 = 3) (hroot : cG L 0 0 2 = -1) (hpar : ∀ k : Nat, 0 < k → k < n → cG L 0 k 2 = 0 ∧ ∃ j : Nat, j < k ∧ cG L 0 k 3 = j) : ∀ (k fuel : Nat), k < n → k < fuel → endC L fuel 3 (cG L 0 k 2) (cG L 0 k 3) = true := by
  intro k
  induction k using Nat.strongRecOn with
  | _ k ih =>
    intro fuel hk hf
    obtain ⟨m, rfl⟩ : ∃ m, fuel = m + 1 := ⟨fuel - 1, by omega⟩
    rw [endC_succ]
    by_cases h0 : k = 0
    · subst h0
      rw [if_pos (.inr (by rw [show ((0 : Nat) : Int) = 0 from rfl, hroot]; decide))]
    · obtain ⟨p1, j, hj, p2⟩ := hpar k (by omega) hk
      rw [if_neg (by rw [p1]; decide), p1, p2, hcap j (by omega)]
      exact ih j hj m (by omega) (by omega)
/-- The tree with one granted to the other environment. -/
theorem FS.grantCV {L : List Int} (h : FS 7 L) : CV 2 (cSet L 1 0 0 1 0 0) := by
  have g := fun (e s i : Nat) (he : e < 2) (hs : s < 8) (hi : i < 4) => cG_set (L := L) (n := 2) (e := 1) (s := 0) (f := 0) (r := 1) (pe := 0) (ps := 0) (e' := e) (s' := s) (k := i) h.len (by omega) (by omega) (by omega) (by omega) (by omega) (by omega) (by omega) hi
  have lenM : ((cSet L 1 0 0 1 0 0).length : Int) = 2 * 32 := by rw [cSet_len]; exact h.len
  generalize cSet L 1 0 0 1 0 0 = M at *
  have g0 : ∀ s i : Nat, s < 8 → i < 4 → cG M 0 s i = cG L 0 s i := fun s i hs hi => by have := g 0 s i (by omega) hs hi; rw [if_neg (by omega)] at this; exact this
  have o1 : ∀ k : Nat, 0 < k → k < 8 → cG M 1 k 1 = 0 := fun k h0 hk => by have := g 1 k 1 (by omega) hk (by omega); rw [if_neg (by omega)] at this; exact this.trans (h.other k hk)
  have r1 : cG M 1 (0 : Nat) 1 = 1 := by have := g 1 0 1 (by omega) (by omega) (by omega); rw [if_pos ⟨rfl, rfl⟩] at this; exact this
  have r2 : cG M 1 (0 : Nat) 2 = 0 := by have := g 1 0 2 (by omega) (by omega) (by omega); rw [if_pos ⟨rfl, rfl⟩] at this; exact this
  have r3 : cG M 1 (0 : Nat) 3 = 0 := by have := g 1 0 3 (by omega) (by omega) (by omega); rw [if_pos ⟨rfl, rfl⟩] at this; exact this
  have ends := ends_of (n := 7) (L := M) (fun k hk => (g0 k 1 (by omega) (by omega)).trans (h.cap k hk).2) ((g0 0 2 (by omega) (by omega)).trans h.root) (fun k a b => by
    obtain ⟨p1, j, hj, p2⟩ := h.par k a b
    exact ⟨(g0 k 2 (by omega) (by omega)).trans p1, j, hj, (g0 k 3 (by omega) (by omega)).trans p2⟩)
  have zero : ∀ (pe ps : Int), endC M 33 0 pe ps = true := fun pe ps => by rw [endC_succ, if_pos (.inl rfl)]
  refine ⟨lenM, fun e s e0 e2 s0 s8 h1 h2 => ?_, fun e s e0 e2 s0 s8 => ?_⟩
  · obtain ⟨k, rfl⟩ : ∃ k : Nat, s = k := ⟨s.toNat, by omega⟩
    by_cases he : e = 0
    · subst he
      by_cases hk : k < 7
      · by_cases hk0 : k = 0
        · subst hk0
          have : cG M 0 (0 : Nat) 2 = -1 := (g0 0 2 (by omega) (by omega)).trans h.root
          rw [this] at h2
          omega
        · obtain ⟨p1, j, hj, p2⟩ := h.par k (by omega) hk
          have a2 : cG M 0 k 2 = 0 := (g0 k 2 (by omega) (by omega)).trans p1
          have a3 : cG M 0 k 3 = j := (g0 k 3 (by omega) (by omega)).trans p2
          rw [a2, a3]; omega
      · exact absurd ((g0 k 1 (by omega) (by omega)).trans (h.free k (by omega) (by omega))) h1
    · have : e = 1 := by omega
      subst this
      by_cases hk0 : k = 0
      · subst hk0
        rw [r2, r3]; omega
      · exact absurd (o1 k (by omega) (by omega)) h1
  · obtain ⟨k, rfl⟩ : ∃ k : Nat, s = k := ⟨s.toNat, by omega⟩
    by_cases he : e = 0
    · subst he
      by_cases hk : k < 7
      · have e1 : cG M 0 k 1 = 3 := (g0 k 1 (by omega) (by omega)).trans (h.cap k hk).2
        rw [e1]; exact ends k 33 hk (by omega)
      · have e1 : cG M 0 k 1 = 0 := (g0 k 1 (by omega) (by omega)).trans (h.free k (by omega) (by omega))
        rw [e1]; exact zero _ _
    · have : e = 1 := by omega
      subst this
      by_cases hk0 : k = 0
      · subst hk0
        have e3 : cG M 0 0 1 = 3 := (g0 0 1 (by omega) (by omega)).trans (h.cap 0 (by omega)).2
        rw [r1, r2, r3, endC_succ, if_neg (by decide), e3]
        exact ends 0 32 (by omega) (by omega)
      · rw [o1 k (by omega) (by omega)]; exact zero _ _
/-- The tree with all below the first one gone. -/
theorem FS.emptiedCV {n : Nat} {L : List Int} (h : FS n L) : CV 2 (emptyC L (plK n)) := by
  have hl := plK_len n
  have h1 := h.n1
  have hm : (plK n).length / 2 = n - 1 := by omega
  obtain ⟨e1, e2⟩ := FS.emptied h (n - 1) (by omega)
  unfold emptyC
  rw [hm]
  generalize emptyK L (plK n) (n - 1) = M at *
  have r : ∀ e s : Nat, e < 2 → s < 8 → cG M e s 1 = if e = 0 ∧ s = 0 then 3 else 0 := fun e s he hs => by
    refine (e2 e s 1 he hs (by omega)).trans ?_
    by_cases c : e = 0 ∧ s = 0
    · obtain ⟨rfl, rfl⟩ := c
      rw [if_neg (by omega), if_pos ⟨rfl, rfl⟩]; exact (h.cap 0 (by omega)).2
    · rw [if_neg c]
      by_cases c2 : e = 0 ∧ 1 ≤ s ∧ s ≤ n - 1
      · rw [if_pos c2]
      · rw [if_neg c2]
        by_cases he0 : e = 0
        · subst he0; exact h.free s (by omega) hs
        · have : e = 1 := by omega
          subst this; exact h.other s hs
  have r2 : cG M ((0 : Nat) : Int) ((0 : Nat) : Int) 2 = -1 := by
    refine (e2 0 0 2 (by omega) (by omega) (by omega)).trans ?_
    rw [if_neg (by omega)]; exact h.root
  refine ⟨e1, fun e s e0 e2' s0 s8 h1 h2 => ?_, fun e s e0 e2' s0 s8 => ?_⟩
  · obtain ⟨k, rfl⟩ : ∃ k : Nat, s = k := ⟨s.toNat, by omega⟩
    obtain ⟨a, rfl⟩ : ∃ a : Nat, e = a := ⟨e.toNat, by omega⟩
    by_cases c : a = 0 ∧ k = 0
    · obtain ⟨rfl, rfl⟩ := c
      rw [r2] at h2
      omega
    · exact absurd ((r a k (by omega) (by omega)).trans (if_neg c)) h1
  · obtain ⟨k, rfl⟩ : ∃ k : Nat, s = k := ⟨s.toNat, by omega⟩
    obtain ⟨a, rfl⟩ : ∃ a : Nat, e = a := ⟨e.toNat, by omega⟩
    by_cases c : a = 0 ∧ k = 0
    · obtain ⟨rfl, rfl⟩ := c
      rw [r2, endC_succ, if_pos (.inr (by omega))]
    · rw [(r a k (by omega) (by omega)).trans (if_neg c), endC_succ, if_pos (.inl rfl)]
/-- The first one alone. -/
theorem FS.one : FS 1 ([0, 3, -1] ++ List.replicate 61 0) := by
  have z : ∀ i : Nat, 3 ≤ i → ([0, 3, -1] ++ List.replicate 61 (0 : Int)).getD i 0 = 0 := fun i hi => by
    have e : ([0, 3, -1] : List Int).length = 3 := rfl
    rw [getD_right (by omega)]
    simp only [List.getD_eq_getElem?_getD, List.getElem?_replicate]
    split <;> rfl
  refine ⟨by simp, by omega, by omega, fun k hk => ?_, rfl, fun k h0 hk => by omega, fun k hk hk8 => ?_, fun k hk => ?_⟩
  · have : k = 0 := by omega
    subst this
    exact ⟨rfl, rfl⟩
  · exact z _ (by omega)
  · exact z _ (by omega)
theorem fPre {n : Nat} {L R : List Int} {s t : Int} (h : FS n L) (hn : n ≤ 7) (hR : R = [(n : Int), 0]) (h0 : 0 ≤ s) (h1 : s < n) (ht : t = n) : FPre L R s t := ⟨n, s.toNat, h, hn, hR, by omega, by omega, ht⟩
theorem fPost {n : Nat} {L R L' R' : List Int} {t e : Int} (q : FPost L R t e L' R') (h : FS n L) (hR : R = [(n : Int), 0]) (ht : t = n) (hn : n < 7) : e = 0 ∧ FS (n + 1) L' ∧ R' = [((n + 1 : Nat) : Int), 0] := by
  obtain ⟨a, b, c⟩ := (q n h hR ht).1 hn
  exact ⟨a, b, c⟩
theorem fPost7 {L R L' R' : List Int} {t e : Int} (q : FPost L R t e L' R') (h : FS 7 L) (hR : R = [((7 : Nat) : Int), 0]) (ht : t = 7) : e = 6 ∧ FS 7 L' ∧ R' = [((7 : Nat) : Int), 0] := (q 7 h hR ht).2 rfl
theorem tm_rng {v k : Int} (hk : 0 < k) : 0 ≤ (v.tmod k + k).tmod k ∧ (v.tmod k + k).tmod k < k := by
  have a := Int.tmod_lt_of_pos v hk
  have b : -k < v.tmod k := by
    have := Int.lt_tmod_of_pos v hk
    omega
  rw [Int.tmod_eq_emod_of_nonneg (by omega)]
  exact ⟨Int.emod_nonneg _ (by omega), Int.emod_lt_of_pos _ hk⟩
end Go.Sx
