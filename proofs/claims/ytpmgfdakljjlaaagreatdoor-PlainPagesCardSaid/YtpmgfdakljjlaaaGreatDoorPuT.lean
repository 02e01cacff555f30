/- What a page table's functions compute: a list of 24 numbers, three to an entry. -/
import Derived.Test.YtpmgfdakljjlaaaGreatDoorSxM7
set_option linter.unusedVariables false
set_option linter.constructorNameAsVariable false
namespace Go.Sx
def tG (L : List Int) (p k : Int) : Int := L.getD (p * 3 + k).toNat 0
def tSet3 (L : List Int) (p f s r : Int) : List Int := ((L.set (p * 3).toNat f).set (p * 3 + 1).toNat s).set (p * 3 + 2).toNat r
def pageOk (p : Int) : Bool := decide (0 ≤ p) && decide (p < 8)
def insE (L : List Int) (p f s r : Int) : Int := if !pteOk f s r || decide (r = 0) || !pageOk p then 2 else if tG L p 2 ≠ 0 then 4 else 0
def insL (L : List Int) (p f s r : Int) : List Int := if insE L p f s r = 0 then tSet3 L p f s r else L
def remE (L : List Int) (p : Int) : Int := if !pageOk p then 2 else if tG L p 2 = 0 then 3 else 0
def remL (L : List Int) (p : Int) : List Int := if remE L p = 0 then tSet3 L p 0 0 0 else L
def remV (L : List Int) (p k : Int) : Int := if remE L p = 0 then tG L p k else 0
def proE (L : List Int) (p r : Int) : Int := if !pageOk p || !rightsB r then 2 else if tG L p 2 = 0 then 3 else 0
def proL (L : List Int) (p r : Int) : List Int := if proE L p r = 0 then L.set (p * 3 + 2).toNat r else L
def atOk (L : List Int) (p : Int) : Bool := pageOk p && decide (tG L p 2 ≠ 0)
def atV (L : List Int) (p k : Int) : Int := if atOk L p then tG L p k else 0
/-- The pages below n that are by a slot. -/
def byUp (L : List Int) (s : Int) : Nat → List Int
  | 0 => []
  | n + 1 => if tG L n 2 ≠ 0 ∧ tG L n 1 = s then byUp L s n ++ [(n : Int)] else byUp L s n
def wordsL (L : List Int) : List Int := (List.range 8).map fun (p : Nat) => pteN (tG L (p : Int) 0) (tG L (p : Int) 1) (tG L (p : Int) 2)
theorem tG_set3 {T : List Int} {p f s r : Int} {q : Nat} {k : Nat} (hT : T.length = 24) (h0 : 0 ≤ p) (h8 : p < 8) (hk : k < 3) :
    tG (tSet3 T p f s r) q k = if (q : Int) = p then (if k = 0 then f else if k = 1 then s else r) else tG T q k := by
  obtain ⟨n, rfl⟩ : ∃ n : Nat, p = n := ⟨p.toNat, by omega⟩
  have e0 : ((n : Int) * 3).toNat = n * 3 := by omega
  have e1 : ((n : Int) * 3 + 1).toNat = n * 3 + 1 := by omega
  have e2 : ((n : Int) * 3 + 2).toNat = n * 3 + 2 := by omega
  have eq : ((q : Int) * 3 + (k : Int)).toNat = q * 3 + k := by omega
  simp only [tG, tSet3, e0, e1, e2, eq, List.getD_eq_getElem?_getD, List.getElem?_set, List.length_set, hT]
  have hn : n < 8 := by omega
  by_cases hq : q = n
  · subst hq
    have b0 : q * 3 < 24 := by omega
    have b1 : q * 3 + 1 < 24 := by omega
    have b2 : q * 3 + 2 < 24 := by omega
    have : k = 0 ∨ k = 1 ∨ k = 2 := by omega
    rcases this with rfl | rfl | rfl
    · simp [b0]
    · simp [b1]
    · simp [b2]
  · have h1 : n * 3 ≠ q * 3 + k := by omega
    have h2 : n * 3 + 1 ≠ q * 3 + k := by omega
    have h3 : n * 3 + 2 ≠ q * 3 + k := by omega
    have h4 : ¬ ((q : Int) = (n : Int)) := by omega
    simp [h1, h2, h3, h4]
theorem tSet3_len {T : List Int} {p f s r : Int} : (tSet3 T p f s r).length = T.length := by simp [tSet3]
theorem ins_ok {T : List Int} {p f s r : Int} (h : pteOk f s r = true) (hr : r ≠ 0) (h0 : 0 ≤ p) (h8 : p < 8) (hz : tG T p 2 = 0) : insE T p f s r = 0 ∧ insL T p f s r = tSet3 T p f s r := by
  have : insE T p f s r = 0 := by simp [insE, h, hr, pageOk, h0, h8, hz]
  exact ⟨this, by simp [insL, this]⟩
theorem byUp_succ (T : List Int) (s : Int) (n : Nat) : byUp T s (n + 1) = if tG T n 2 ≠ 0 ∧ tG T n 1 = s then byUp T s n ++ [(n : Int)] else byUp T s n := rfl
theorem byUp_len (T : List Int) (s : Int) : ∀ n : Nat, (byUp T s n).length ≤ n
  | 0 => Nat.le_refl 0
  | n + 1 => by
    have := byUp_len T s n
    rw [byUp_succ]
    split
    · rw [List.length_append, List.length_singleton]; omega
    · omega
theorem byUp_congr {T T' : List Int} {s : Int} : ∀ {n : Nat}, (∀ q : Nat, q < n → tG T' q 1 = tG T q 1 ∧ tG T' q 2 = tG T q 2) → byUp T' s n = byUp T s n
  | 0, _ => rfl
  | n + 1, h => by
    rw [byUp_succ, byUp_succ, (h n (Nat.lt_succ_self n)).1, (h n (Nat.lt_succ_self n)).2, byUp_congr fun q hq => h q (by omega)]
theorem byUp_zero {T : List Int} {s : Int} {i : Nat} : ∀ {n : Nat}, i ≤ n → (∀ q : Nat, q < n → i ≤ q → tG T q 2 = 0) → byUp T s n = byUp T s i
  | 0, h, _ => by rw [show i = 0 by omega]
  | n + 1, h, hz => by
    by_cases hi : i = n + 1
    · rw [hi]
    · rw [byUp_succ, if_neg (fun c => c.1 (hz n (by omega) (by omega)))]
      exact byUp_zero (by omega) fun q hq hiq => hz q (by omega) hiq
/-- A table whose first pages are filled, one after another. -/
structure TabSt (T : List Int) (i : Int) : Prop where
  i0 : 0 ≤ i
  i8 : i ≤ 8
  len : T.length = 24
  free : ∀ q : Nat, q < 8 → i ≤ q → tG T q 2 = 0
  slot : ∀ q : Nat, q < 8 → 0 ≤ tG T q 1 ∧ tG T q 1 < 8
structure BySt (T : List Int) (i j n c : Int) (W : List Int) : Prop where
  list : W = byUp T j i.toNat
  cnt : n = (W.length : Int)
  cap : n ≤ c
theorem TabSt.start : TabSt (List.replicate 24 0) 0 := by
  refine ⟨by omega, by omega, rfl, fun q hq _ => ?_, fun q hq => ?_⟩
  · simp only [tG, List.getD_eq_getElem?_getD, List.getElem?_replicate]; split <;> rfl
  · simp only [tG, List.getD_eq_getElem?_getD, List.getElem?_replicate]; split <;> exact ⟨by decide, by decide⟩
theorem TabSt.step {T : List Int} {i f s r : Int} (h : TabSt T i) (hi : i < 8) (h0 : 0 ≤ s) (h8 : s < 8) : TabSt (tSet3 T i f s r) (i + 1) := by
  have g1 := fun q : Nat => tG_set3 (q := q) (k := 1) (f := f) (s := s) (r := r) h.len h.i0 hi (by omega)
  have g2 := fun q : Nat => tG_set3 (q := q) (k := 2) (f := f) (s := s) (r := r) h.len h.i0 hi (by omega)
  refine ⟨by have := h.i0; omega, by omega, by rw [tSet3_len]; exact h.len, fun q hq hiq => ?_, fun q hq => ?_⟩
  · rw [show ((2 : Int)) = ((2 : Nat) : Int) by rfl, g2 q, if_neg (by omega)]
    exact h.free q hq (by omega)
  · rw [show ((1 : Int)) = ((1 : Nat) : Int) by rfl, g1 q]
    split
    · simp; omega
    · exact h.slot q hq
theorem BySt.step {T : List Int} {i f s r j n c : Int} {W : List Int} (h : TabSt T i) (hi : i < 8) (hr : r ≠ 0) (b : BySt T i j n c W) :
    (s ≠ j → BySt (tSet3 T i f s r) (i + 1) j n c W) ∧ (s = j → ∀ c', n + 1 ≤ c' → BySt (tSet3 T i f s r) (i + 1) j (n + 1) c' (W ++ [i])) := by
  have g1 := fun q : Nat => tG_set3 (q := q) (k := 1) (f := f) (s := s) (r := r) h.len h.i0 hi (by omega)
  have g2 := fun q : Nat => tG_set3 (q := q) (k := 2) (f := f) (s := s) (r := r) h.len h.i0 hi (by omega)
  have i0 := h.i0
  obtain ⟨m, rfl⟩ : ∃ m : Nat, i = m := ⟨i.toNat, by omega⟩
  have e : byUp (tSet3 T m f s r) j m = byUp T j m := byUp_congr fun q hq => by
    refine ⟨?_, ?_⟩
    · have := g1 q; rw [if_neg (by omega)] at this; exact this
    · have := g2 q; rw [if_neg (by omega)] at this; exact this
  have a1 : tG (tSet3 T m f s r) m 1 = s := by have := g1 m; rw [if_pos rfl] at this; exact this
  have a2 : tG (tSet3 T m f s r) m 2 = r := by have := g2 m; rw [if_pos rfl] at this; exact this
  have et : ((m : Int) + 1).toNat = m + 1 := by omega
  have bl := b.list
  rw [Int.toNat_natCast] at bl
  refine ⟨fun hs => ⟨?_, b.cnt, b.cap⟩, fun hs c' hc => ⟨?_, ?_, hc⟩⟩
  · rw [et, byUp_succ, a1, a2, if_neg (fun c => hs c.2), e, bl]
  · rw [et, byUp_succ, a1, a2, if_pos ⟨hr, hs⟩, e, bl]
  · rw [List.length_append, List.length_singleton, b.cnt]; push_cast; rfl
theorem BySt.small {T : List Int} {i j n c : Int} {W : List Int} (h : TabSt T i) (b : BySt T i j n c W) : n ≤ 8 := by
  have := byUp_len T j i.toNat
  rw [← b.list] at this
  have := b.cnt; have := h.i8; have := h.i0
  omega
theorem BySt.fin {T : List Int} {i j n c : Int} {W : List Int} (h : TabSt T i) (b : BySt T i j n c W) : W = byUp T j 8 := by
  rw [b.list]
  have := h.i8; have := h.i0
  exact (byUp_zero (by omega) fun q hq hiq => h.free q hq (by omega)).symm
theorem byUp_none {T : List Int} {i j : Int} (h : TabSt T i) (hj : j < 0 ∨ 8 ≤ j) : byUp T j 8 = [] := by
  have : ∀ n : Nat, n ≤ 8 → byUp T j n = [] := by
    intro n
    induction n with
    | zero => intro _; rfl
    | succ n ih =>
      intro hn
      have := h.slot n (by omega)
      rw [byUp_succ, if_neg (fun c => by have := c.2; omega)]
      exact ih (by omega)
  exact this 8 (Nat.le_refl 8)
/-- A table: empty entries are all nought. -/
structure WSt (W : List Int) : Prop where
  len : W.length = 24
  zero : ∀ q : Nat, q < 8 → tG W q 2 = 0 → tG W q 0 = 0 ∧ tG W q 1 = 0
theorem WSt.start : WSt (List.replicate 24 0) := by
  refine ⟨rfl, fun q hq _ => ⟨?_, ?_⟩⟩ <;> simp only [tG, List.getD_eq_getElem?_getD, List.getElem?_replicate] <;> split <;> rfl
theorem tG_cast {T : List Int} {p : Int} (h : 0 ≤ p) (k : Int) : tG T (p.toNat : Int) k = tG T p k := by rw [show ((p.toNat : Nat) : Int) = p by omega]
theorem WSt.at {W : List Int} (h : WSt W) {p : Int} (h0 : 0 ≤ p) (h8 : p < 8) (hz : tG W p 2 = 0) : tG W p 0 = 0 ∧ tG W p 1 = 0 := by
  have := h.zero p.toNat (by omega) (by rw [tG_cast h0]; exact hz)
  rwa [tG_cast h0, tG_cast h0] at this
theorem WSt.set {W : List Int} (h : WSt W) {p f s r : Int} (h0 : 0 ≤ p) (h8 : p < 8) (hz : r = 0 → f = 0 ∧ s = 0) : WSt (tSet3 W p f s r) := by
  have g := fun (q k : Nat) (hk : k < 3) => tG_set3 (q := q) (k := k) (f := f) (s := s) (r := r) h.len h0 h8 hk
  refine ⟨by rw [tSet3_len]; exact h.len, fun q hq => ?_⟩
  have g0 := g q 0 (by omega); have g1 := g q 1 (by omega); have g2 := g q 2 (by omega)
  by_cases hp : (q : Int) = p
  · simp only [hp, if_true] at g0 g1 g2
    rw [hp]
    intro h2
    have e2 : r = 0 := by rw [← h2]; exact g2.symm
    exact ⟨g0.trans (hz e2).1, g1.trans (hz e2).2⟩
  · simp only [hp, if_false] at g0 g1 g2
    intro h2
    have e2 : tG W q 2 = 0 := by rw [← h2]; exact g2.symm
    exact ⟨g0.trans (h.zero q hq e2).1, g1.trans (h.zero q hq e2).2⟩
theorem list_set_same {l : List Int} {i : Nat} {x : Int} (h : l.getD i 0 = x) (hi : i < l.length) : l.set i x = l := by
  subst h
  apply List.ext_getElem?
  intro j
  rw [List.getElem?_set]
  by_cases hj : i = j
  · subst hj; simp [hi]
  · simp [hj]
theorem tSet3_same {W : List Int} {p f s r : Int} (hl : W.length = 24) (h0 : 0 ≤ p) (h8 : p < 8) (e0 : tG W p 0 = f) (e1 : tG W p 1 = s) (e2 : tG W p 2 = r) : tSet3 W p f s r = W := by
  unfold tSet3
  have a0 : W.set (p * 3).toNat f = W := list_set_same (by rw [← e0]; unfold tG; rw [Int.add_zero]) (by omega)
  rw [a0]
  have a1 : W.set (p * 3 + 1).toNat s = W := list_set_same e1 (by omega)
  rw [a1]
  exact list_set_same e2 (by omega)
theorem WSt.same {W : List Int} (h : WSt W) {p : Int} (h0 : 0 ≤ p) (h8 : p < 8) (hz : tG W p 2 = 0) : tSet3 W p 0 0 0 = W :=
  tSet3_same h.len h0 h8 (h.at h0 h8 hz).1 (h.at h0 h8 hz).2 hz
theorem WSt.pro {W : List Int} (h : WSt W) {p r : Int} (h0 : 0 ≤ p) (h8 : p < 8) (hr : r ≠ 0) : WSt (W.set (p * 3 + 2).toNat r) := by
  have e : W.set (p * 3 + 2).toNat r = tSet3 W p (tG W p 0) (tG W p 1) r := by
    unfold tSet3
    have a0 : W.set (p * 3).toNat (tG W p 0) = W := list_set_same (by unfold tG; rw [Int.add_zero]) (by have := h.len; omega)
    rw [a0]
    have a1 : W.set (p * 3 + 1).toNat (tG W p 1) = W := list_set_same rfl (by have := h.len; omega)
    rw [a1]
  rw [e]
  exact h.set h0 h8 fun c => absurd c hr
theorem byUp_le (T : List Int) (s : Int) {m : Nat} : ∀ {n : Nat}, m ≤ n → ∃ R, byUp T s n = byUp T s m ++ R
  | 0, h => ⟨[], by rw [show m = 0 by omega]; simp⟩
  | n + 1, h => by
    by_cases hm : m = n + 1
    · exact ⟨[], by rw [hm]; simp⟩
    · obtain ⟨R, hR⟩ := byUp_le T s (m := m) (n := n) (by omega)
      rw [byUp_succ, hR]
      split
      · exact ⟨R ++ [(n : Int)], by rw [List.append_assoc]⟩
      · exact ⟨R, rfl⟩
/-- The entry behind those that were told is the next one that is by the slot. -/
theorem byUp_next {T : List Int} {s : Int} {i : Nat} (hi : i < 8) (h2 : tG T i 2 ≠ 0) (h1 : tG T i 1 = s) :
    (byUp T s i).length < (byUp T s 8).length ∧ (byUp T s 8).getD (byUp T s i).length 0 = i ∧ (byUp T s (i + 1)).length = (byUp T s i).length + 1 := by
  have e : byUp T s (i + 1) = byUp T s i ++ [(i : Int)] := by rw [byUp_succ, if_pos ⟨h2, h1⟩]
  obtain ⟨R, hR⟩ := byUp_le T s (m := i + 1) (n := 8) (by omega)
  rw [e, List.append_assoc] at hR
  refine ⟨by rw [hR]; simp, ?_, by rw [e]; simp⟩
  rw [hR]
  simp [List.getD_eq_getElem?_getD]
theorem byUp_skip {T : List Int} {s : Int} {i : Nat} (h : ¬ (tG T i 2 ≠ 0 ∧ tG T i 1 = s)) : byUp T s (i + 1) = byUp T s i := by rw [byUp_succ, if_neg h]
theorem wordsL_at {T : List Int} {i : Nat} (hi : i < 8) : (wordsL T).getD i 0 = pteN (tG T i 0) (tG T i 1) (tG T i 2) := by
  simp [wordsL, List.getD_eq_getElem?_getD, hi]
theorem atV_ok {T : List Int} (h : WSt T) {i : Nat} (hi : i < 8) : atV T i 0 = tG T i 0 ∧ atV T i 1 = tG T i 1 ∧ atV T i 2 = tG T i 2 ∧ atOk T i = decide (tG T i 2 ≠ 0) := by
  have hp : pageOk (i : Int) = true := by simp only [pageOk, Bool.and_eq_true, decide_eq_true_eq]; omega
  have ho : atOk T i = decide (tG T i 2 ≠ 0) := by rw [atOk, hp, Bool.true_and]
  refine ⟨?_, ?_, ?_, ho⟩ <;> unfold atV <;> rw [ho] <;> by_cases hz : tG T i 2 = 0
  · simp [hz, (h.zero i hi hz).1]
  · simp [hz]
  · simp [hz, (h.zero i hi hz).2]
  · simp [hz]
  · simp [hz]
  · simp [hz]
end Go.Sx
