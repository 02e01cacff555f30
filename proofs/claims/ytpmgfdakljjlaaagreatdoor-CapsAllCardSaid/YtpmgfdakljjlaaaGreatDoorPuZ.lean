/- The executor: texts of it, one behind another. -/
import Derived.Test.YtpmgfdakljjlaaaGreatDoorSxM7
set_option linter.unusedVariables false
set_option linter.constructorNameAsVariable false
/- Remainders. -/
namespace Go.Sx
theorem tmodR {x m : Int} (h : 0 < m) : -m < x.tmod m ∧ x.tmod m < m := by
  have h1 := Int.tmod_lt_of_pos x h
  have h2 := Int.tmod_lt_of_pos (-x) h
  rw [Int.neg_tmod] at h2
  omega
theorem tmodP {x m : Int} (hx : 0 ≤ x) (h : 0 < m) : 0 ≤ x.tmod m ∧ x.tmod m < m := by
  rw [Int.tmod_eq_emod_of_nonneg hx]
  exact ⟨Int.emod_nonneg x (by omega), Int.emod_lt_of_pos x h⟩
end Go.Sx
/- What a page table's functions compute: a list of 24 numbers, three to an entry. -/
set_option linter.unusedVariables false
namespace Go.Sx
def tG (L : List Int) (p k : Int) : Int := L.getD (p * 3 + k).toNat 0
def tSet3 (L : List Int) (p f s r : Int) : List Int := ((L.set (p * 3).toNat f).set (p * 3 + 1).toNat s).set (p * 3 + 2).toNat r
def pageOk (p : Int) : Bool := decide (0 ≤ p) && decide (p < 8)
def insE (L : List Int) (p f s r : Int) : Int := if !pteOk f s r || decide (r = 0) || !pageOk p then 2 else if tG L p 2 ≠ 0 then 4 else 0
def insL (L : List Int) (p f s r : Int) : List Int := if insE L p f s r = 0 then tSet3 L p f s r else L
def remE (L : List Int) (p : Int) : Int := if !pageOk p then 2 else if tG L p 2 = 0 then 3 else 0
def remL (L : List Int) (p : Int) : List Int := if remE L p = 0 then tSet3 L p 0 0 0 else L
def remV (L : List Int) (p k : Int) : Int := if remE L p = 0 then tG L p k else 0
def proE (L : List Int) (p r : Int) : Int := if !pageOk p || !rightsB r then 2 else if tG L p 2 = 0 then 3 else 0
def proL (L : List Int) (p r : Int) : List Int := if proE L p r = 0 then L.set (p * 3 + 2).toNat r else L
def atOk (L : List Int) (p : Int) : Bool := pageOk p && decide (tG L p 2 ≠ 0)
def atV (L : List Int) (p k : Int) : Int := if atOk L p then tG L p k else 0
/-- The pages below n that are by a slot. -/
def byUp (L : List Int) (s : Int) : Nat → List Int
  | 0 => []
  | n + 1 => if tG L n 2 ≠ 0 ∧ tG L n 1 = s then byUp L s n ++ [(n : Int)] else byUp L s n
def wordsL (L : List Int) : List Int := (List.range 8).map fun (p : Nat) => pteN (tG L (p : Int) 0) (tG L (p : Int) 1) (tG L (p : Int) 2)
theorem tG_set3 {T : List Int} {p f s r : Int} {q : Nat} {k : Nat} (hT : T.length = 24) (h0 : 0 ≤ p) (h8 : p < 8) (hk : k < 3) :
    tG (tSet3 T p f s r) q k = if (q : Int) = p then (if k = 0 then f else if k = 1 then s else r) else tG T q k := by
  obtain ⟨n, rfl⟩ : ∃ n : Nat, p = n := ⟨p.toNat, by omega⟩
  have e0 : ((n : Int) * 3).toNat = n * 3 := by omega
  have e1 : ((n : Int) * 3 + 1).toNat = n * 3 + 1 := by omega
  have e2 : ((n : Int) * 3 + 2).toNat = n * 3 + 2 := by omega
  have eq : ((q : Int) * 3 + (k : Int)).toNat = q * 3 + k := by omega
  simp only [tG, tSet3, e0, e1, e2, eq, List.getD_eq_getElem?_getD, List.getElem?_set, List.length_set, hT]
  have hn : n < 8 := by omega
  by_cases hq : q = n
  · subst hq
    have b0 : q * 3 < 24 := by omega
    have b1 : q * 3 + 1 < 24 := by omega
    have b2 : q * 3 + 2 < 24 := by omega
    have : k = 0 ∨ k = 1 ∨ k = 2 := by omega
    rcases this with rfl | rfl | rfl
    · simp [b0]
    · simp [b1]
    · simp [b2]
  · have h1 : n * 3 ≠ q * 3 + k := by omega
    have h2 : n * 3 + 1 ≠ q * 3 + k := by omega
    have h3 : n * 3 + 2 ≠ q * 3 + k := by omega
    have h4 : ¬ ((q : Int) = (n : Int)) := by omega
    simp [h1, h2, h3, h4]
theorem tSet3_len {T : List Int} {p f s r : Int} : (tSet3 T p f s r).length = T.length := by simp [tSet3]
theorem ins_ok {T : List Int} {p f s r : Int} (h : pteOk f s r = true) (hr : r ≠ 0) (h0 : 0 ≤ p) (h8 : p < 8) (hz : tG T p 2 = 0) : insE T p f s r = 0 ∧ insL T p f s r = tSet3 T p f s r := by
  have : insE T p f s r = 0 := by simp [insE, h, hr, pageOk, h0, h8, hz]
  exact ⟨this, by simp [insL, this]⟩
theorem byUp_succ (T : List Int) (s : Int) (n : Nat) : byUp T s (n + 1) = if tG T n 2 ≠ 0 ∧ tG T n 1 = s then byUp T s n ++ [(n : Int)] else byUp T s n := rfl
theorem byUp_len (T : List Int) (s : Int) : ∀ n : Nat, (byUp T s n).length ≤ n
  | 0 => Nat.le_refl 0
  | n + 1 => by
    have := byUp_len T s n
    rw [byUp_succ]
    split
    · rw [List.length_append, List.length_singleton]; omega
    · omega
theorem byUp_congr {T T' : List Int} {s : Int} : ∀ {n : Nat}, (∀ q : Nat, q < n → tG T' q 1 = tG T q 1 ∧ tG T' q 2 = tG T q 2) → byUp T' s n = byUp T s n
  | 0, _ => rfl
  | n + 1, h => by
    rw [byUp_succ, byUp_succ, (h n (Nat.lt_succ_self n)).1, (h n (Nat.lt_succ_self n)).2, byUp_congr fun q hq => h q (by omega)]
theorem byUp_zero {T : List Int} {s : Int} {i : Nat} : ∀ {n : Nat}, i ≤ n → (∀ q : Nat, q < n → i ≤ q → tG T q 2 = 0) → byUp T s n = byUp T s i
  | 0, h, _ => by rw [show i = 0 by omega]
  | n + 1, h, hz => by
    by_cases hi : i = n + 1
    · rw [hi]
    · rw [byUp_succ, if_neg (fun c => c.1 (hz n (by omega) (by omega)))]
      exact byUp_zero (by omega) fun q hq hiq => hz q (by omega) hiq
/-- A table whose first pages are filled, one after another. -/
structure TabSt (T : List Int) (i : Int) : Prop where
  i0 : 0 ≤ i
  i8 : i ≤ 8
  len : T.length = 24
  free : ∀ q : Nat, q < 8 → i ≤ q → tG T q 2 = 0
  slot : ∀ q : Nat, q < 8 → 0 ≤ tG T q 1 ∧ tG T q 1 < 8
structure BySt (T : List Int) (i j n c : Int) (W : List Int) : Prop where
  list : W = byUp T j i.toNat
  cnt : n = (W.length : Int)
  cap : n ≤ c
theorem TabSt.start : TabSt (List.replicate 24 0) 0 := by
  refine ⟨by omega, by omega, rfl, fun q hq _ => ?_, fun q hq => ?_⟩
  · simp only [tG, List.getD_eq_getElem?_getD, List.getElem?_replicate]; split <;> rfl
  · simp only [tG, List.getD_eq_getElem?_getD, List.getElem?_replicate]; split <;> exact ⟨by decide, by decide⟩
theorem TabSt.step {T : List Int} {i f s r : Int} (h : TabSt T i) (hi : i < 8) (h0 : 0 ≤ s) (h8 : s < 8) : TabSt (tSet3 T i f s r) (i + 1) := by
  have g1 := fun q : Nat => tG_set3 (q := q) (k := 1) (f := f) (s := s) (r := r) h.len h.i0 hi (by omega)
  have g2 := fun q : Nat => tG_set3 (q := q) (k := 2) (f := f) (s := s) (r := r) h.len h.i0 hi (by omega)
  refine ⟨by have := h.i0; omega, by omega, by rw [tSet3_len]; exact h.len, fun q hq hiq => ?_, fun q hq => ?_⟩
  · rw [show ((2 : Int)) = ((2 : Nat) : Int) by rfl, g2 q, if_neg (by omega)]
    exact h.free q hq (by omega)
  · rw [show ((1 : Int)) = ((1 : Nat) : Int) by rfl, g1 q]
    split
    · simp; omega
    · exact h.slot q hq
theorem BySt.step {T : List Int} {i f s r j n c : Int} {W : List Int} (h : TabSt T i) (hi : i < 8) (hr : r ≠ 0) (b : BySt T i j n c W) :
    (s ≠ j → BySt (tSet3 T i f s r) (i + 1) j n c W) ∧ (s = j → ∀ c', n + 1 ≤ c' → BySt (tSet3 T i f s r) (i + 1) j (n + 1) c' (W ++ [i])) := by
  have g1 := fun q : Nat => tG_set3 (q := q) (k := 1) (f := f) (s := s) (r := r) h.len h.i0 hi (by omega)
  have g2 := fun q : Nat => tG_set3 (q := q) (k := 2) (f := f) (s := s) (r := r) h.len h.i0 hi (by omega)
  have i0 := h.i0
  obtain ⟨m, rfl⟩ : ∃ m : Nat, i = m := ⟨i.toNat, by omega⟩
  have e : byUp (tSet3 T m f s r) j m = byUp T j m := byUp_congr fun q hq => by
    refine ⟨?_, ?_⟩
    · have := g1 q; rw [if_neg (by omega)] at this; exact this
    · have := g2 q; rw [if_neg (by omega)] at this; exact this
  have a1 : tG (tSet3 T m f s r) m 1 = s := by have := g1 m; rw [if_pos rfl] at this; exact this
  have a2 : tG (tSet3 T m f s r) m 2 = r := by have := g2 m; rw [if_pos rfl] at this; exact this
  have et : ((m : Int) + 1).toNat = m + 1 := by omega
  have bl := b.list
  rw [Int.toNat_natCast] at bl
  refine ⟨fun hs => ⟨?_, b.cnt, b.cap⟩, fun hs c' hc => ⟨?_, ?_, hc⟩⟩
  · rw [et, byUp_succ, a1, a2, if_neg (fun c => hs c.2), e, bl]
  · rw [et, byUp_succ, a1, a2, if_pos ⟨hr, hs⟩, e, bl]
  · rw [List.length_append, List.length_singleton, b.cnt]; push_cast; rfl
theorem BySt.small {T : List Int} {i j n c : Int} {W : List Int} (h : TabSt T i) (b : BySt T i j n c W) : n ≤ 8 := by
  have := byUp_len T j i.toNat
  rw [← b.list] at this
  have := b.cnt; have := h.i8; have := h.i0
  omega
theorem BySt.fin {T : List Int} {i j n c : Int} {W : List Int} (h : TabSt T i) (b : BySt T i j n c W) : W = byUp T j 8 := by
  rw [b.list]
  have := h.i8; have := h.i0
  exact (byUp_zero (by omega) fun q hq hiq => h.free q hq (by omega)).symm
theorem byUp_none {T : List Int} {i j : Int} (h : TabSt T i) (hj : j < 0 ∨ 8 ≤ j) : byUp T j 8 = [] := by
  have : ∀ n : Nat, n ≤ 8 → byUp T j n = [] := by
    intro n
    induction n with
    | zero => intro _; rfl
    | succ n ih =>
      intro hn
      have := h.slot n (by omega)
      rw [byUp_succ, if_neg (fun c => by have := c.2; omega)]
      exact ih (by omega)
  exact this 8 (Nat.le_refl 8)
/-- A table: empty entries are all nought. -/
structure WSt (W : List Int) : Prop where
  len : W.length = 24
  zero : ∀ q : Nat, q < 8 → tG W q 2 = 0 → tG W q 0 = 0 ∧ tG W q 1 = 0
theorem WSt.start : WSt (List.replicate 24 0) := by
  refine ⟨rfl, fun q hq _ => ⟨?_, ?_⟩⟩ <;> simp only [tG, List.getD_eq_getElem?_getD, List.getElem?_replicate] <;> split <;> rfl
theorem tG_cast {T : List Int} {p : Int} (h : 0 ≤ p) (k : Int) : tG T (p.toNat : Int) k = tG T p k := by rw [show ((p.toNat : Nat) : Int) = p by omega]
theorem WSt.at {W : List Int} (h : WSt W) {p : Int} (h0 : 0 ≤ p) (h8 : p < 8) (hz : tG W p 2 = 0) : tG W p 0 = 0 ∧ tG W p 1 = 0 := by
  have := h.zero p.toNat (by omega) (by rw [tG_cast h0]; exact hz)
  rwa [tG_cast h0, tG_cast h0] at this
theorem WSt.set {W : List Int} (h : WSt W) {p f s r : Int} (h0 : 0 ≤ p) (h8 : p < 8) (hz : r = 0 → f = 0 ∧ s = 0) : WSt (tSet3 W p f s r) := by
  have g := fun (q k : Nat) (hk : k < 3) => tG_set3 (q := q) (k := k) (f := f) (s := s) (r := r) h.len h0 h8 hk
  refine ⟨by rw [tSet3_len]; exact h.len, fun q hq => ?_⟩
  have g0 := g q 0 (by omega); have g1 := g q 1 (by omega); have g2 := g q 2 (by omega)
  by_cases hp : (q : Int) = p
  · simp only [hp, if_true] at g0 g1 g2
    rw [hp]
    intro h2
    have e2 : r = 0 := by rw [← h2]; exact g2.symm
    exact ⟨g0.trans (hz e2).1, g1.trans (hz e2).2⟩
  · simp only [hp, if_false] at g0 g1 g2
    intro h2
    have e2 : tG W q 2 = 0 := by rw [← h2]; exact g2.symm
    exact ⟨g0.trans (h.zero q hq e2).1, g1.trans (h.zero q hq e2).2⟩
theorem list_set_same {l : List Int} {i : Nat} {x : Int} (h : l.getD i 0 = x) (hi : i < l.length) : l.set i x = l := by
  subst h
  apply List.ext_getElem?
  intro j
  rw [List.getElem?_set]
  by_cases hj : i = j
  · subst hj; simp [hi]
  · simp [hj]
theorem tSet3_same {W : List Int} {p f s r : Int} (hl : W.length = 24) (h0 : 0 ≤ p) (h8 : p < 8) (e0 : tG W p 0 = f) (e1 : tG W p 1 = s) (e2 : tG W p 2 = r) : tSet3 W p f s r = W := by
  unfold tSet3
  have a0 : W.set (p * 3).toNat f = W := list_set_same (by rw [← e0]; unfold tG; rw [Int.add_zero]) (by omega)
  rw [a0]
  have a1 : W.set (p * 3 + 1).toNat s = W := list_set_same e1 (by omega)
  rw [a1]
  exact list_set_same e2 (by omega)
theorem WSt.same {W : List Int} (h : WSt W) {p : Int} (h0 : 0 ≤ p) (h8 : p < 8) (hz : tG W p 2 = 0) : tSet3 W p 0 0 0 = W :=
  tSet3_same h.len h0 h8 (h.at h0 h8 hz).1 (h.at h0 h8 hz).2 hz
theorem WSt.pro {W : List Int} (h : WSt W) {p r : Int} (h0 : 0 ≤ p) (h8 : p < 8) (hr : r ≠ 0) : WSt (W.set (p * 3 + 2).toNat r) := by
  have e : W.set (p * 3 + 2).toNat r = tSet3 W p (tG W p 0) (tG W p 1) r := by
    unfold tSet3
    have a0 : W.set (p * 3).toNat (tG W p 0) = W := list_set_same (by unfold tG; rw [Int.add_zero]) (by have := h.len; omega)
    rw [a0]
    have a1 : W.set (p * 3 + 1).toNat (tG W p 1) = W := list_set_same rfl (by have := h.len; omega)
    rw [a1]
  rw [e]
  exact h.set h0 h8 fun c => absurd c hr
theorem byUp_le (T : List Int) (s : Int) {m : Nat} : ∀ {n : Nat}, m ≤ n → ∃ R, byUp T s n = byUp T s m ++ R
  | 0, h => ⟨[], by rw [show m = 0 by omega]; simp⟩
  | n + 1, h => by
    by_cases hm : m = n + 1
    · exact ⟨[], by rw [hm]; simp⟩
    · obtain ⟨R, hR⟩ := byUp_le T s (m := m) (n := n) (by omega)
      rw [byUp_succ, hR]
      split
      · exact ⟨R ++ [(n : Int)], by rw [List.append_assoc]⟩
      · exact ⟨R, rfl⟩
/-- The entry behind those that were told is the next one that is by the slot. -/
theorem byUp_next {T : List Int} {s : Int} {i : Nat} (hi : i < 8) (h2 : tG T i 2 ≠ 0) (h1 : tG T i 1 = s) :
    (byUp T s i).length < (byUp T s 8).length ∧ (byUp T s 8).getD (byUp T s i).length 0 = i ∧ (byUp T s (i + 1)).length = (byUp T s i).length + 1 := by
  have e : byUp T s (i + 1) = byUp T s i ++ [(i : Int)] := by rw [byUp_succ, if_pos ⟨h2, h1⟩]
  obtain ⟨R, hR⟩ := byUp_le T s (m := i + 1) (n := 8) (by omega)
  rw [e, List.append_assoc] at hR
  refine ⟨by rw [hR]; simp, ?_, by rw [e]; simp⟩
  rw [hR]
  simp [List.getD_eq_getElem?_getD]
theorem byUp_skip {T : List Int} {s : Int} {i : Nat} (h : ¬ (tG T i 2 ≠ 0 ∧ tG T i 1 = s)) : byUp T s (i + 1) = byUp T s i := by rw [byUp_succ, if_neg h]
theorem wordsL_at {T : List Int} {i : Nat} (hi : i < 8) : (wordsL T).getD i 0 = pteN (tG T i 0) (tG T i 1) (tG T i 2) := by
  simp [wordsL, List.getD_eq_getElem?_getD, hi]
theorem atV_ok {T : List Int} (h : WSt T) {i : Nat} (hi : i < 8) : atV T i 0 = tG T i 0 ∧ atV T i 1 = tG T i 1 ∧ atV T i 2 = tG T i 2 ∧ atOk T i = decide (tG T i 2 ≠ 0) := by
  have hp : pageOk (i : Int) = true := by simp only [pageOk, Bool.and_eq_true, decide_eq_true_eq]; omega
  have ho : atOk T i = decide (tG T i 2 ≠ 0) := by rw [atOk, hp, Bool.true_and]
  refine ⟨?_, ?_, ?_, ho⟩ <;> unfold atV <;> rw [ho] <;> by_cases hz : tG T i 2 = 0
  · simp [hz, (h.zero i hi hz).1]
  · simp [hz]
  · simp [hz, (h.zero i hi hz).2]
  · simp [hz]
  · simp [hz]
  · simp [hz]
end Go.Sx
/- What a buffer's functions compute: a list of 41 numbers, five to a place (environment, page, frame, rights, when), then the clock. -/
set_option linter.unusedVariables false
namespace Go.Sx
def gI (L : List Int) (i : Int) : Int := L.getD i.toNat 0
def hitB (L : List Int) (e p o : Int) : Bool := decide (gI L o = e) && decide (gI L (o + 1) = p)
def baseB (p : Int) : Int := p % 4 * 10
/-- The place of an entry, -1: none. -/
def atB (L : List Int) (e p : Int) : Int :=
  if e < 0 ∨ p < 0 ∨ 8 ≤ p then -1 else if hitB L e p (baseB p) then baseB p else if hitB L e p (baseB p + 5) then baseB p + 5 else -1
def emptyB (L : List Int) (o : Int) : List Int := (((L.set o.toNat (-1)).set (o + 1).toNat 0).set (o + 2).toNat 0).set (o + 3).toNat 0
def findB (L : List Int) (e p k : Int) : Int := if atB L e p = -1 then 0 else gI L (atB L e p + k)
def flushB (L : List Int) (e p : Int) : List Int := if atB L e p = -1 then L else emptyB L (atB L e p)
def lineOk (e p f r : Int) : Bool := decide (0 ≤ e) && (decide (e < 4) && (decide (0 ≤ p) && (decide (p < 8) && (decide (0 ≤ f) && (decide (f < 16) && rightsB r)))))
def roomB (L : List Int) (b : Int) : Int := if gI L b < 0 then b else if gI L (b + 5) < 0 then b + 5 else if gI L (b + 9) < gI L (b + 4) then b + 5 else b
def placeB (L : List Int) (e p : Int) : Int := if atB L e p = -1 then roomB L (baseB p) else atB L e p
def putB (L : List Int) (o e p f r n : Int) : List Int := (((((L.set 40 n).set o.toNat e).set (o + 1).toNat p).set (o + 2).toNat f).set (o + 3).toNat r).set (o + 4).toNat (gI (L.set 40 n) 40)
def fillB (L : List Int) (e p f r : Int) : List Int := if lineOk e p f r then putB L (placeB L e p) e p f r (IntKind.wrap .i64 (gI L 40 + 1)) else L
def evictOk (L : List Int) (s w : Int) : Bool := decide (0 ≤ s) && (decide (s < 4) && (decide (0 ≤ w) && (decide (w < 2) && decide (0 ≤ gI L (s * 10 + w * 5)))))
def evictB (L : List Int) (s w : Int) : List Int := if evictOk L s w then emptyB L (s * 10 + w * 5) else L
def linesB (L : List Int) : List Int := [gI L 0, gI L 1, gI L 2, gI L 3, gI L 5, gI L 6, gI L 7, gI L 8, gI L 10, gI L 11, gI L 12, gI L 13, gI L 15, gI L 16, gI L 17, gI L 18, gI L 20, gI L 21, gI L 22, gI L 23, gI L 25, gI L 26, gI L 27, gI L 28, gI L 30, gI L 31, gI L 32, gI L 33, gI L 35, gI L 36, gI L 37, gI L 38]
/-- The entries of a frame are flushed, one place after another. -/
def ffB (L0 : List Int) (f : Int) : Nat → List Int × Int
  | 0 => (L0, 0)
  | i + 1 =>
    let q := ffB L0 f i
    if 0 ≤ gI L0 (i * 5) ∧ gI L0 (i * 5 + 2) = f ∧ atB q.1 (gI L0 (i * 5)) (gI L0 (i * 5 + 1)) ≠ -1 then (flushB q.1 (gI L0 (i * 5)) (gI L0 (i * 5 + 1)), q.2 + 1) else q
def clearB (L : List Int) : List Int := emptyB (emptyB (emptyB (emptyB (emptyB (emptyB (emptyB (emptyB L 0) 5) 10) 15) 20) 25) 30) 35
theorem linesB_at {L : List Int} {k j : Nat} (hk : k < 8) (hj : j < 4) : (linesB L).getD (k * 4 + j) 0 = gI L ((k : Int) * 5 + (j : Int)) := by
  have h1 : k = 0 ∨ k = 1 ∨ k = 2 ∨ k = 3 ∨ k = 4 ∨ k = 5 ∨ k = 6 ∨ k = 7 := by omega
  have h2 : j = 0 ∨ j = 1 ∨ j = 2 ∨ j = 3 := by omega
  rcases h1 with rfl | rfl | rfl | rfl | rfl | rfl | rfl | rfl <;> rcases h2 with rfl | rfl | rfl | rfl <;> rfl
theorem ffB_succ (L0 : List Int) (f : Int) (i : Nat) : ffB L0 f (i + 1) =
    if 0 ≤ gI L0 (i * 5) ∧ gI L0 (i * 5 + 2) = f ∧ atB (ffB L0 f i).1 (gI L0 (i * 5)) (gI L0 (i * 5 + 1)) ≠ -1 then (flushB (ffB L0 f i).1 (gI L0 (i * 5)) (gI L0 (i * 5 + 1)), (ffB L0 f i).2 + 1) else ffB L0 f i := rfl
theorem ffB_le (L0 : List Int) (f : Int) : ∀ i : Nat, 0 ≤ (ffB L0 f i).2 ∧ (ffB L0 f i).2 ≤ i
  | 0 => by simp [ffB]
  | i + 1 => by
    have := ffB_le L0 f i
    rw [ffB_succ]
    split
    · simp only; omega
    · omega
theorem flushB_none {L : List Int} {e p : Int} (h : atB L e p = -1) : flushB L e p = L := by simp [flushB, h]
end Go.Sx
/- What the document's buffer computes: a list of 41 numbers: eight lines of four, when each was filled, the clock. -/
set_option linter.unusedVariables false
namespace Go.Sx
def hitR (M : List Int) (e p : Int) (i : Nat) : Bool := decide (0 ≤ gI M (i * 4)) && (decide (gI M (i * 4) = e) && decide (gI M (i * 4 + 1) = p))
/-- The first place of an entry below n, -1: none. -/
def rfB (M : List Int) (e p : Int) : Nat → Int
  | 0 => -1
  | n + 1 => if rfB M e p n ≠ -1 then rfB M e p n else if hitR M e p n then n else -1
def noneR (M : List Int) (i : Int) : List Int := (((M.set (i * 4).toNat (-1)).set (i * 4 + 1).toNat 0).set (i * 4 + 2).toNat 0).set (i * 4 + 3).toNat 0
def findR (M : List Int) (e p k : Int) : Int := if rfB M e p 8 = -1 then 0 else gI M (rfB M e p 8 * 4 + k)
def flushR (M : List Int) (e p : Int) : List Int := if rfB M e p 8 = -1 then M else noneR M (rfB M e p 8)
def roomR (M : List Int) (f : Int) : Int := if gI M (f * 4) < 0 then f else if gI M (f * 4 + 4) < 0 then f + 1 else if gI M (33 + f) < gI M (32 + f) then f + 1 else f
def placeR (M : List Int) (e p : Int) : Int := if rfB M e p 8 = -1 then roomR M (p % 4 * 2) else rfB M e p 8
def putR (M : List Int) (i e p f r n : Int) : List Int := (((((M.set 40 n).set (i * 4).toNat e).set (i * 4 + 1).toNat p).set (i * 4 + 2).toNat f).set (i * 4 + 3).toNat r).set (32 + i).toNat (gI (M.set 40 n) 40)
def fillR (M : List Int) (e p f r : Int) : List Int := if lineOk e p f r then putR M (placeR M e p) e p f r (IntKind.wrap .i64 (gI M 40 + 1)) else M
def evictIn (s w : Int) : Bool := decide (0 ≤ s) && (decide (s < 4) && (decide (0 ≤ w) && decide (w < 2)))
def evictROk (M : List Int) (s w : Int) : Bool := evictIn s w && decide (0 ≤ gI M ((s * 2 + w) * 4))
def evictR (M : List Int) (s w : Int) : List Int := if evictIn s w then noneR M (s * 2 + w) else M
def ffR (M : List Int) (f : Int) : Nat → List Int × Int
  | 0 => (M, 0)
  | i + 1 =>
    let q := ffR M f i
    if 0 ≤ gI q.1 (i * 4) ∧ gI q.1 (i * 4 + 2) = f then (noneR q.1 i, q.2 + 1) else q
theorem rfB_succ (M : List Int) (e p : Int) (n : Nat) : rfB M e p (n + 1) = if rfB M e p n ≠ -1 then rfB M e p n else if hitR M e p n then (n : Int) else -1 := rfl
theorem rfB_range (M : List Int) (e p : Int) : ∀ n : Nat, -1 ≤ rfB M e p n ∧ rfB M e p n < n ∨ rfB M e p n = -1
  | 0 => .inr rfl
  | n + 1 => by
    have := rfB_range M e p n
    rw [rfB_succ]
    split
    · omega
    · split <;> omega
theorem rfB_stay {M : List Int} {e p : Int} {k : Nat} (h : rfB M e p k ≠ -1) : ∀ {n : Nat}, k ≤ n → rfB M e p n = rfB M e p k
  | 0, hk => by rw [show k = 0 by omega]
  | n + 1, hk => by
    by_cases hc : k = n + 1
    · rw [hc]
    · have := rfB_stay h (n := n) (by omega)
      rw [rfB_succ, this, if_pos h]
theorem ffR_succ (M : List Int) (f : Int) (i : Nat) : ffR M f (i + 1) = if 0 ≤ gI (ffR M f i).1 (i * 4) ∧ gI (ffR M f i).1 (i * 4 + 2) = f then (noneR (ffR M f i).1 i, (ffR M f i).2 + 1) else ffR M f i := rfl
theorem ffR_le (M : List Int) (f : Int) : ∀ i : Nat, 0 ≤ (ffR M f i).2 ∧ (ffR M f i).2 ≤ i
  | 0 => by simp [ffR]
  | i + 1 => by
    have := ffR_le M f i
    rw [ffR_succ]
    split
    · simp only; omega
    · omega
end Go.Sx
/- The buffer's list and the document's: what is in one is in the other. -/
set_option linter.unusedVariables false
namespace Go.Sx
theorem gI_set {L : List Int} {n : Nat} {v q : Int} (hn : n < L.length) : gI (L.set n v) q = if q.toNat = n then v else gI L q := by
  simp only [gI, List.getD_eq_getElem?_getD, List.getElem?_set]
  by_cases h : n = q.toNat
  · subst h; simp [hn]
  · have h' : ¬ q.toNat = n := fun c => h c.symm
    simp [h, h']
theorem emptyB_len {L : List Int} {o : Int} : (emptyB L o).length = L.length := by simp [emptyB]
theorem noneR_len {L : List Int} {o : Int} : (noneR L o).length = L.length := by simp [noneR]
theorem putB_len {L : List Int} {o e p f r n : Int} : (putB L o e p f r n).length = L.length := by simp [putB]
theorem putR_len {L : List Int} {o e p f r n : Int} : (putR L o e p f r n).length = L.length := by simp [putR]
theorem gI_emptyB {L : List Int} {o q : Int} (h : L.length = 41) (h0 : 0 ≤ o) (h1 : o ≤ 37) (hq : 0 ≤ q) :
    gI (emptyB L o) q = if q = o then -1 else if o < q ∧ q ≤ o + 3 then 0 else gI L q := by
  unfold emptyB
  rw [gI_set (by simp; omega), gI_set (by simp; omega), gI_set (by simp; omega), gI_set (by omega)]
  repeat' split
  all_goals first | rfl | omega
theorem gI_noneR {L : List Int} {i q : Int} (h : L.length = 41) (h0 : 0 ≤ i) (h1 : i ≤ 7) (hq : 0 ≤ q) :
    gI (noneR L i) q = if q = i * 4 then -1 else if i * 4 < q ∧ q ≤ i * 4 + 3 then 0 else gI L q := by
  unfold noneR
  rw [gI_set (by simp; omega), gI_set (by simp; omega), gI_set (by simp; omega), gI_set (by omega)]
  repeat' split
  all_goals first | rfl | omega
theorem gI_putB {L : List Int} {o e p f r n q : Int} (h : L.length = 41) (h0 : 0 ≤ o) (h1 : o ≤ 35) (hq : 0 ≤ q) :
    gI (putB L o e p f r n) q = if q = o then e else if q = o + 1 then p else if q = o + 2 then f else if q = o + 3 then r else if q = o + 4 then n else if q = 40 then n else gI L q := by
  unfold putB
  have hn : gI (L.set 40 n) 40 = n := by rw [gI_set (by omega)]; rfl
  rw [hn, gI_set (by simp; omega), gI_set (by simp; omega), gI_set (by simp; omega), gI_set (by simp; omega), gI_set (by simp; omega), gI_set (by omega)]
  repeat' split
  all_goals first | rfl | omega
theorem gI_putR {L : List Int} {i e p f r n q : Int} (h : L.length = 41) (h0 : 0 ≤ i) (h1 : i ≤ 7) (hq : 0 ≤ q) :
    gI (putR L i e p f r n) q = if q = i * 4 then e else if q = i * 4 + 1 then p else if q = i * 4 + 2 then f else if q = i * 4 + 3 then r else if q = 32 + i then n else if q = 40 then n else gI L q := by
  unfold putR
  have hn : gI (L.set 40 n) 40 = n := by rw [gI_set (by omega)]; rfl
  rw [hn, gI_set (by simp; omega), gI_set (by simp; omega), gI_set (by simp; omega), gI_set (by simp; omega), gI_set (by simp; omega), gI_set (by omega)]
  repeat' split
  all_goals first | rfl | omega
/-- Entries are in the places of their sets, each once. -/
structure WB (L : List Int) : Prop where
  len : L.length = 41
  page : ∀ i : Int, 0 ≤ i → i < 8 → 0 ≤ gI L (5 * i) → 0 ≤ gI L (5 * i + 1) ∧ gI L (5 * i + 1) < 8 ∧ gI L (5 * i + 1) % 4 = i / 2
  uniq : ∀ i j : Int, 0 ≤ i → i < 8 → 0 ≤ j → j < 8 → 0 ≤ gI L (5 * i) → gI L (5 * i) = gI L (5 * j) → gI L (5 * i + 1) = gI L (5 * j + 1) → i = j
theorem hitB_iff {L : List Int} {e p o : Int} : hitB L e p o = true ↔ gI L o = e ∧ gI L (o + 1) = p := by
  simp [hitB]
theorem WB.at_some {L : List Int} (h : WB L) {e p : Int} (ha : atB L e p ≠ -1) : ∃ i, 0 ≤ i ∧ i < 8 ∧ atB L e p = 5 * i ∧ 0 ≤ e ∧ gI L (5 * i) = e ∧ gI L (5 * i + 1) = p ∧ i / 2 = p % 4 := by
  unfold atB at ha ⊢
  by_cases h1 : e < 0 ∨ p < 0 ∨ 8 ≤ p
  · rw [if_pos h1] at ha; exact absurd rfl ha
  · rw [if_neg h1] at ha ⊢
    by_cases h2 : hitB L e p (baseB p) = true
    · rw [if_pos h2] at ha ⊢
      rw [hitB_iff] at h2
      have hb : baseB p = p % 4 * 10 := rfl
      refine ⟨p % 4 * 2, by omega, by omega, by unfold baseB; omega, by omega, ?_, ?_, by omega⟩
      · rw [show 5 * (p % 4 * 2) = baseB p by omega]; exact h2.1
      · rw [show 5 * (p % 4 * 2) = baseB p by omega]; exact h2.2
    · rw [if_neg h2] at ha ⊢
      by_cases h3 : hitB L e p (baseB p + 5) = true
      · rw [if_pos h3] at ha ⊢
        rw [hitB_iff] at h3
        have hb : baseB p = p % 4 * 10 := rfl
        refine ⟨p % 4 * 2 + 1, by omega, by omega, by unfold baseB; omega, by omega, ?_, ?_, by omega⟩
        · rw [show 5 * (p % 4 * 2 + 1) = baseB p + 5 by omega]; exact h3.1
        · rw [show 5 * (p % 4 * 2 + 1) = baseB p + 5 by omega]; exact h3.2
      · rw [if_neg h3] at ha; exact absurd rfl ha
theorem WB.at_of {L : List Int} (h : WB L) {e p i : Int} (i0 : 0 ≤ i) (i8 : i < 8) (he : 0 ≤ e) (h1 : gI L (5 * i) = e) (h2 : gI L (5 * i + 1) = p) : atB L e p = 5 * i := by
  have hp := h.page i i0 i8 (by omega)
  have ne : atB L e p ≠ -1 := by
    unfold atB
    rw [if_neg (by omega)]
    have hi : i = p % 4 * 2 ∨ i = p % 4 * 2 + 1 := by omega
    have hb : baseB p = p % 4 * 10 := rfl
    rcases hi with hi | hi
    · have : hitB L e p (baseB p) = true := by
        rw [hitB_iff, show baseB p = 5 * i by omega]; exact ⟨h1, h2⟩
      rw [if_pos this]; unfold baseB; omega
    · have : hitB L e p (baseB p + 5) = true := by
        rw [hitB_iff, show baseB p + 5 = 5 * i by omega]; exact ⟨h1, h2⟩
      rw [if_pos this]
      split <;> (unfold baseB; omega)
  obtain ⟨j, j0, j8, hj, _, g1, g2, _⟩ := h.at_some ne
  have := h.uniq i j i0 i8 j0 j8 (by omega) (by omega) (by omega)
  rw [hj, this]
theorem WB.empty {L : List Int} (h : WB L) {i : Int} (i0 : 0 ≤ i) (i8 : i < 8) : WB (emptyB L (5 * i)) := by
  have g := fun q hq => gI_emptyB (L := L) (o := 5 * i) (q := q) h.len (by omega) (by omega) hq
  refine ⟨by rw [emptyB_len]; exact h.len, fun j j0 j8 hj => ?_, fun j k j0 j8 k0 k8 hj e1 e2 => ?_⟩
  · rw [g _ (by omega)] at hj
    have hji : j ≠ i := by intro c; subst c; rw [if_pos rfl] at hj; omega
    rw [if_neg (by omega), if_neg (by omega)] at hj
    rw [g _ (by omega), if_neg (by omega), if_neg (by omega)]
    exact h.page j j0 j8 hj
  · rw [g _ (by omega)] at hj
    have hji : j ≠ i := by intro c; subst c; rw [if_pos rfl] at hj; omega
    rw [if_neg (by omega), if_neg (by omega)] at hj
    rw [g _ (by omega), g _ (by omega), if_neg (by omega), if_neg (by omega)] at e1
    have hki : k ≠ i := by intro c; subst c; rw [if_pos rfl] at e1; omega
    rw [if_neg (by omega), if_neg (by omega)] at e1
    rw [g _ (by omega), g _ (by omega), if_neg (by omega), if_neg (by omega), if_neg (by omega), if_neg (by omega)] at e2
    exact h.uniq j k j0 j8 k0 k8 hj e1 e2
theorem WB.put {L : List Int} (h : WB L) {i e p f r n : Int} (i0 : 0 ≤ i) (i8 : i < 8) (p0 : 0 ≤ p) (p8 : p < 8) (hs : i / 2 = p % 4) (hno : ∀ j : Int, 0 ≤ j → j < 8 → j ≠ i → ¬ (gI L (5 * j) = e ∧ gI L (5 * j + 1) = p)) : WB (putB L (5 * i) e p f r n) := by
  have g := fun q hq => gI_putB (L := L) (o := 5 * i) (e := e) (p := p) (f := f) (r := r) (n := n) (q := q) h.len (by omega) (by omega) hq
  have gi0 : gI (putB L (5 * i) e p f r n) (5 * i) = e := by rw [g _ (by omega), if_pos rfl]
  have gi1 : gI (putB L (5 * i) e p f r n) (5 * i + 1) = p := by rw [g _ (by omega), if_neg (by omega), if_pos rfl]
  have go : ∀ j k : Int, 0 ≤ j → j < 8 → j ≠ i → 0 ≤ k → k ≤ 4 → gI (putB L (5 * i) e p f r n) (5 * j + k) = gI L (5 * j + k) := by
    intro j k j0 j8 hj k0 k4
    rw [g _ (by omega), if_neg (by omega), if_neg (by omega), if_neg (by omega), if_neg (by omega), if_neg (by omega), if_neg (by omega)]
  have go0 : ∀ j : Int, 0 ≤ j → j < 8 → j ≠ i → gI (putB L (5 * i) e p f r n) (5 * j) = gI L (5 * j) := by
    intro j j0 j8 hj
    have := go j 0 j0 j8 hj (by omega) (by omega)
    rwa [Int.add_zero] at this
  refine ⟨by rw [putB_len]; exact h.len, fun j j0 j8 hj => ?_, fun j k j0 j8 k0 k8 hj e1 e2 => ?_⟩
  · by_cases hji : j = i
    · subst hji; rw [gi1]; omega
    · rw [go0 j j0 j8 hji] at hj
      rw [go j 1 j0 j8 hji (by omega) (by omega)]
      exact h.page j j0 j8 hj
  · by_cases hji : j = i
    · by_cases hki : k = i
      · rw [hji, hki]
      · subst hji
        rw [gi0, go0 k k0 k8 hki] at e1
        rw [gi1, go k 1 k0 k8 hki (by omega) (by omega)] at e2
        exact absurd ⟨e1.symm, e2.symm⟩ (hno k k0 k8 hki)
    · by_cases hki : k = i
      · subst hki
        rw [gi0, go0 j j0 j8 hji] at e1
        rw [gi1, go j 1 j0 j8 hji (by omega) (by omega)] at e2
        exact absurd ⟨e1, e2⟩ (hno j j0 j8 hji)
      · rw [go0 j j0 j8 hji] at hj
        rw [go0 j j0 j8 hji, go0 k k0 k8 hki] at e1
        rw [go j 1 j0 j8 hji (by omega) (by omega), go k 1 k0 k8 hki (by omega) (by omega)] at e2
        exact h.uniq j k j0 j8 k0 k8 hj e1 e2
/-- The place that a fill takes. -/
theorem WB.place {L : List Int} (h : WB L) {e p : Int} (e0 : 0 ≤ e) (p0 : 0 ≤ p) (p8 : p < 8) :
    ∃ i, 0 ≤ i ∧ i < 8 ∧ placeB L e p = 5 * i ∧ i / 2 = p % 4 ∧ ∀ j : Int, 0 ≤ j → j < 8 → j ≠ i → ¬ (gI L (5 * j) = e ∧ gI L (5 * j + 1) = p) := by
  unfold placeB
  by_cases ha : atB L e p = -1
  · rw [if_pos ha]
    have hno : ∀ j : Int, 0 ≤ j → j < 8 → ¬ (gI L (5 * j) = e ∧ gI L (5 * j + 1) = p) := by
      rintro j j0 j8 ⟨c1, c2⟩
      have := h.at_of j0 j8 e0 c1 c2
      omega
    have hr : roomB L (baseB p) = baseB p ∨ roomB L (baseB p) = baseB p + 5 := by
      unfold roomB
      repeat' split
      all_goals simp
    rcases hr with hr | hr
    · exact ⟨p % 4 * 2, by omega, by omega, by rw [hr]; unfold baseB; omega, by omega, fun j j0 j8 _ => hno j j0 j8⟩
    · exact ⟨p % 4 * 2 + 1, by omega, by omega, by rw [hr]; unfold baseB; omega, by omega, fun j j0 j8 _ => hno j j0 j8⟩
  · rw [if_neg ha]
    obtain ⟨i, i0, i8, hi, _, g1, g2, hs⟩ := h.at_some ha
    refine ⟨i, i0, i8, hi, hs, fun j j0 j8 hj c => hj ?_⟩
    exact h.uniq j i j0 j8 i0 i8 (by omega) (by omega) (by omega)
theorem WB.fill {L : List Int} (h : WB L) (e p f r : Int) : WB (fillB L e p f r) := by
  unfold fillB
  split
  · rename_i hk
    simp only [lineOk, Bool.and_eq_true, decide_eq_true_eq] at hk
    obtain ⟨i, i0, i8, hi, hs, hno⟩ := h.place (e := e) (p := p) hk.1 hk.2.2.1 hk.2.2.2.1
    rw [hi]
    exact h.put i0 i8 hk.2.2.1 hk.2.2.2.1 hs hno
  · exact h
theorem WB.flush {L : List Int} (h : WB L) (e p : Int) : WB (flushB L e p) := by
  unfold flushB
  split
  · exact h
  · rename_i ha
    obtain ⟨i, i0, i8, hi, _⟩ := h.at_some ha
    rw [hi]; exact h.empty i0 i8
theorem WB.start : WB (clearB (List.replicate 41 0)) := by
  have e : clearB (List.replicate 41 0) = [-1, 0, 0, 0, 0, -1, 0, 0, 0, 0, -1, 0, 0, 0, 0, -1, 0, 0, 0, 0, -1, 0, 0, 0, 0, -1, 0, 0, 0, 0, -1, 0, 0, 0, 0, -1, 0, 0, 0, 0, 0] := by decide
  rw [e]
  have neg : ∀ i : Int, 0 ≤ i → i < 8 → gI [-1, 0, 0, 0, 0, -1, 0, 0, 0, 0, -1, 0, 0, 0, 0, -1, 0, 0, 0, 0, -1, 0, 0, 0, 0, -1, 0, 0, 0, 0, -1, 0, 0, 0, 0, -1, 0, 0, 0, 0, 0] (5 * i) = -1 := by
    intro i i0 i8
    have : i = 0 ∨ i = 1 ∨ i = 2 ∨ i = 3 ∨ i = 4 ∨ i = 5 ∨ i = 6 ∨ i = 7 := by omega
    rcases this with rfl | rfl | rfl | rfl | rfl | rfl | rfl | rfl <;> rfl
  exact ⟨rfl, fun i i0 i8 hi => by rw [neg i i0 i8] at hi; omega, fun i j i0 i8 j0 j8 hi => by rw [neg i i0 i8] at hi; omega⟩
/-- How many entries of a frame there are below n. -/
def cntB (L : List Int) (f : Int) : Nat → Int
  | 0 => 0
  | n + 1 => cntB L f n + (if 0 ≤ gI L (5 * n) ∧ gI L (5 * n + 2) = f then 1 else 0)
structure FfSt (L : List Int) (f : Int) (k : Nat) (T : List Int) (n : Int) : Prop where
  wb : WB T
  cell : ∀ i c : Int, 0 ≤ i → i < 8 → 0 ≤ c → c < 4 → gI T (5 * i + c) = if i < k ∧ 0 ≤ gI L (5 * i) ∧ gI L (5 * i + 2) = f then (if c = 0 then -1 else 0) else gI L (5 * i + c)
  time : ∀ i : Int, 0 ≤ i → i < 8 → gI T (5 * i + 4) = gI L (5 * i + 4)
  now : gI T 40 = gI L 40
  cnt : n = cntB L f k
theorem WB.ff {L : List Int} (h : WB L) (f : Int) : ∀ k : Nat, k ≤ 8 → FfSt L f k (ffB L f k).1 (ffB L f k).2
  | 0, _ => ⟨h, fun i c i0 i8 c0 c4 => by rw [if_neg (by omega)]; rfl, fun _ _ _ => rfl, rfl, rfl⟩
  | k + 1, hk => by
    have ih := h.ff f k (by omega)
    have hs := ffB_succ L f k
    have e0 : (k : Int) * 5 = 5 * k := Int.mul_comm _ _
    rw [e0] at hs
    generalize ffB L f k = q at ih hs
    have ck := fun c c0 c4 => ih.cell k c (by omega) (by omega) c0 c4
    by_cases hc : 0 ≤ gI L (5 * k) ∧ gI L (5 * k + 2) = f
    · have hne : atB q.1 (gI L (5 * k)) (gI L (5 * k + 1)) = 5 * (k : Int) := by
        refine ih.wb.at_of (by omega) (by omega) hc.1 ?_ ?_
        · have := ck 0 (by omega) (by omega); rw [if_neg (by omega), Int.add_zero] at this; exact this
        · have := ck 1 (by omega) (by omega); rw [if_neg (by omega)] at this; exact this
      rw [if_pos ⟨hc.1, hc.2, by omega⟩] at hs
      have hfl : flushB q.1 (gI L (5 * k)) (gI L (5 * k + 1)) = emptyB q.1 (5 * k) := by
        unfold flushB; rw [hne, if_neg (by omega)]
      rw [hfl] at hs
      rw [hs]
      have g := fun x hx => gI_emptyB (L := q.1) (o := 5 * (k : Int)) (q := x) ih.wb.len (by omega) (by omega) hx
      refine ⟨ih.wb.empty (by omega) (by omega), fun i c i0 i8 c0 c4 => ?_, fun i i0 i8 => ?_, ?_, ?_⟩
      · simp only
        rw [g _ (by omega)]
        by_cases hi : i = k
        · subst hi
          rw [if_pos (c := (k : Int) < ((k + 1 : Nat) : Int) ∧ _) ⟨by omega, hc⟩]
          by_cases h0 : c = 0
          · rw [if_pos (by omega), if_pos h0]
          · rw [if_neg (by omega), if_pos (by omega), if_neg h0]
        · rw [if_neg (by omega), if_neg (by omega), ih.cell i c i0 i8 c0 c4]
          have : (i < (k : Int) ∧ 0 ≤ gI L (5 * i) ∧ gI L (5 * i + 2) = f) ↔ (i < ((k + 1 : Nat) : Int) ∧ 0 ≤ gI L (5 * i) ∧ gI L (5 * i + 2) = f) := by
            constructor
            · intro h; exact ⟨by omega, h.2⟩
            · intro h; exact ⟨by omega, h.2⟩
          simp only [this]
      · simp only
        rw [g _ (by omega), if_neg (by omega), if_neg (by omega)]
        exact ih.time i i0 i8
      · simp only
        rw [g _ (by omega), if_neg (by omega), if_neg (by omega)]
        exact ih.now
      · simp only [cntB]
        rw [if_pos hc, ih.cnt]
    · rw [if_neg (fun c => hc ⟨c.1, c.2.1⟩)] at hs
      rw [hs]
      refine ⟨ih.wb, fun i c i0 i8 c0 c4 => ?_, ih.time, ih.now, ?_⟩
      · rw [ih.cell i c i0 i8 c0 c4]
        have : (i < (k : Int) ∧ 0 ≤ gI L (5 * i) ∧ gI L (5 * i + 2) = f) ↔ (i < ((k + 1 : Nat) : Int) ∧ 0 ≤ gI L (5 * i) ∧ gI L (5 * i + 2) = f) := by
          constructor
          · intro h; exact ⟨by omega, h.2⟩
          · intro h
            refine ⟨?_, h.2⟩
            by_cases hi : i = k
            · subst hi; exact absurd h.2 hc
            · omega
        simp only [this]
      · simp only [cntB]
        rw [if_neg hc, ih.cnt]; omega
/-- No place ahead has the entry. -/
structure NoHit (L : List Int) (e p : Int) (i : Int) : Prop where
  no : ∀ j : Int, 0 ≤ j → j < i → ¬ (0 ≤ gI L (5 * j) ∧ gI L (5 * j) = e ∧ gI L (5 * j + 1) = p)
end Go.Sx
/- The two buffers alike. -/
set_option linter.unusedVariables false
namespace Go.Sx
structure BR (L M : List Int) : Prop where
  lenM : M.length = 41
  cell : ∀ i c : Int, 0 ≤ i → i < 8 → 0 ≤ c → c < 4 → gI L (5 * i + c) = gI M (i * 4 + c)
  time : ∀ i : Int, 0 ≤ i → i < 8 → gI L (5 * i + 4) = gI M (32 + i)
  now : gI L 40 = gI M 40
/-- An empty place is all nought but the environment, which is -1. -/
structure NB (L : List Int) : Prop where
  none : ∀ i : Int, 0 ≤ i → i < 8 → gI L (5 * i) < 0 → gI L (5 * i) = -1 ∧ gI L (5 * i + 1) = 0 ∧ gI L (5 * i + 2) = 0 ∧ gI L (5 * i + 3) = 0
theorem BR.cell0 {L M : List Int} (b : BR L M) {i : Int} (i0 : 0 ≤ i) (i8 : i < 8) : gI L (5 * i) = gI M (i * 4) := by
  have := b.cell i 0 i0 i8 (by omega) (by omega)
  rwa [Int.add_zero, Int.add_zero] at this
theorem hitR_iff {M : List Int} {e p : Int} {i : Nat} : hitR M e p i = true ↔ 0 ≤ gI M (i * 4) ∧ gI M (i * 4) = e ∧ gI M (i * 4 + 1) = p := by
  simp [hitR]
theorem rfB_hit {M : List Int} {e p : Int} : ∀ {n : Nat}, rfB M e p n ≠ -1 → ∃ i : Nat, i < n ∧ rfB M e p n = i ∧ hitR M e p i = true
  | 0, h => absurd rfl h
  | n + 1, h => by
    rw [rfB_succ] at h ⊢
    by_cases hn : rfB M e p n ≠ -1
    · rw [if_pos hn] at h ⊢
      obtain ⟨i, hi, h1, h2⟩ := rfB_hit hn
      exact ⟨i, by omega, h1, h2⟩
    · rw [if_neg hn] at h ⊢
      by_cases hh : hitR M e p n = true
      · rw [if_pos hh]; exact ⟨n, by omega, rfl, hh⟩
      · rw [if_neg hh] at h; exact absurd rfl h
theorem rfB_miss {M : List Int} {e p : Int} : ∀ {n : Nat}, rfB M e p n = -1 → ∀ i : Nat, i < n → hitR M e p i = false
  | 0, _, i, hi => by omega
  | n + 1, h, i, hi => by
    rw [rfB_succ] at h
    by_cases hn : rfB M e p n ≠ -1
    · rw [if_pos hn] at h; exact absurd h hn
    · have hn' : rfB M e p n = -1 := by omega
      rw [if_neg hn] at h
      by_cases hin : i = n
      · subst hin
        cases hh : hitR M e p i with
        | false => rfl
        | true => rw [hh, if_pos rfl] at h; omega
      · exact rfB_miss hn' i (by omega)
/-- Both find the same place. -/
theorem BR.at {L M : List Int} (b : BR L M) (h : WB L) (e p : Int) : (rfB M e p 8 = -1 ∧ atB L e p = -1) ∨ ∃ i, 0 ≤ i ∧ i < 8 ∧ rfB M e p 8 = i ∧ atB L e p = 5 * i := by
  by_cases hr : rfB M e p 8 = -1
  · left
    refine ⟨hr, ?_⟩
    cases Decidable.em (atB L e p = -1) with
    | inl h => exact h
    | inr ha =>
      obtain ⟨i, i0, i8, hi, e0, g1, g2, _⟩ := h.at_some ha
      have := rfB_miss hr i.toNat (by omega)
      have c : hitR M e p i.toNat = true := by
        rw [hitR_iff, show ((i.toNat : Nat) : Int) = i by omega, ← b.cell0 i0 i8, ← b.cell i 1 i0 i8 (by omega) (by omega)]
        exact ⟨by omega, g1, g2⟩
      rw [c] at this; cases this
  · right
    obtain ⟨i, hi, h1, h2⟩ := rfB_hit hr
    rw [hitR_iff, ← b.cell0 (by omega) (by omega), ← b.cell i 1 (by omega) (by omega) (by omega) (by omega)] at h2
    exact ⟨i, by omega, by omega, h1, h.at_of (by omega) (by omega) (by omega) h2.2.1 h2.2.2⟩
theorem BR.empty {L M : List Int} (b : BR L M) (h : WB L) {i : Int} (i0 : 0 ≤ i) (i8 : i < 8) : BR (emptyB L (5 * i)) (noneR M i) := by
  have g := fun q hq => gI_emptyB (L := L) (o := 5 * i) (q := q) h.len (by omega) (by omega) hq
  have g' := fun q hq => gI_noneR (L := M) (i := i) (q := q) b.lenM (by omega) (by omega) hq
  refine ⟨by rw [noneR_len]; exact b.lenM, fun j c j0 j8 c0 c4 => ?_, fun j j0 j8 => ?_, ?_⟩
  · rw [g _ (by omega), g' _ (by omega)]
    have := b.cell j c j0 j8 c0 c4
    by_cases hj : j = i
    · subst hj
      by_cases hc : c = 0
      · rw [if_pos (by omega), if_pos (by omega)]
      · rw [if_neg (by omega), if_pos (by omega), if_neg (by omega), if_pos (by omega)]
    · rw [if_neg (by omega), if_neg (by omega), if_neg (by omega), if_neg (by omega)]; exact this
  · rw [g _ (by omega), g' _ (by omega), if_neg (by omega), if_neg (by omega), if_neg (by omega), if_neg (by omega)]
    exact b.time j j0 j8
  · rw [g _ (by omega), g' _ (by omega), if_neg (by omega), if_neg (by omega), if_neg (by omega), if_neg (by omega)]
    exact b.now
theorem BR.put {L M : List Int} (b : BR L M) (h : WB L) {i e p f r n : Int} (i0 : 0 ≤ i) (i8 : i < 8) : BR (putB L (5 * i) e p f r n) (putR M i e p f r n) := by
  have g := fun q hq => gI_putB (L := L) (o := 5 * i) (e := e) (p := p) (f := f) (r := r) (n := n) (q := q) h.len (by omega) (by omega) hq
  have g' := fun q hq => gI_putR (L := M) (i := i) (e := e) (p := p) (f := f) (r := r) (n := n) (q := q) b.lenM (by omega) (by omega) hq
  refine ⟨by rw [putR_len]; exact b.lenM, fun j c j0 j8 c0 c4 => ?_, fun j j0 j8 => ?_, ?_⟩
  · rw [g _ (by omega), g' _ (by omega)]
    have := b.cell j c j0 j8 c0 c4
    by_cases hj : j = i
    · subst hj
      have : c = 0 ∨ c = 1 ∨ c = 2 ∨ c = 3 := by omega
      rcases this with rfl | rfl | rfl | rfl
      · rw [if_pos (by omega), if_pos (by omega)]
      · rw [if_neg (by omega), if_pos (by omega), if_neg (by omega), if_pos (by omega)]
      · rw [if_neg (by omega), if_neg (by omega), if_pos (by omega), if_neg (by omega), if_neg (by omega), if_pos (by omega)]
      · rw [if_neg (by omega), if_neg (by omega), if_neg (by omega), if_pos (by omega), if_neg (by omega), if_neg (by omega), if_neg (by omega), if_pos (by omega)]
    · rw [if_neg (by omega), if_neg (by omega), if_neg (by omega), if_neg (by omega), if_neg (by omega), if_neg (by omega), if_neg (by omega), if_neg (by omega), if_neg (by omega), if_neg (by omega), if_neg (by omega), if_neg (by omega)]; exact this
  · rw [g _ (by omega), g' _ (by omega)]
    by_cases hj : j = i
    · subst hj
      rw [if_neg (by omega), if_neg (by omega), if_neg (by omega), if_neg (by omega), if_pos (by omega), if_neg (by omega), if_neg (by omega), if_neg (by omega), if_neg (by omega), if_pos (by omega)]
    · rw [if_neg (by omega), if_neg (by omega), if_neg (by omega), if_neg (by omega), if_neg (by omega), if_neg (by omega), if_neg (by omega), if_neg (by omega), if_neg (by omega), if_neg (by omega), if_neg (by omega), if_neg (by omega)]
      exact b.time j j0 j8
  · rw [g _ (by omega), g' _ (by omega), if_neg (by omega), if_neg (by omega), if_neg (by omega), if_neg (by omega), if_neg (by omega), if_pos (by omega), if_neg (by omega), if_neg (by omega), if_neg (by omega), if_neg (by omega), if_neg (by omega), if_pos (by omega)]
theorem BR.room {L M : List Int} (b : BR L M) {p : Int} : ∃ i, 0 ≤ i ∧ i < 8 ∧ roomB L (baseB p) = 5 * i ∧ roomR M (p % 4 * 2) = i := by
  have hb : baseB p = p % 4 * 10 := rfl
  have f0 : 0 ≤ p % 4 * 2 := by omega
  have f7 : p % 4 * 2 + 1 < 8 := by omega
  have c0 := b.cell0 f0 (by omega)
  have c1 := b.cell0 (i := p % 4 * 2 + 1) (by omega) f7
  have t0 := b.time (p % 4 * 2) f0 (by omega)
  have t1 := b.time (p % 4 * 2 + 1) (by omega) f7
  rw [show 5 * (p % 4 * 2) = baseB p by omega] at c0 t0
  rw [show 5 * (p % 4 * 2 + 1) = baseB p + 5 by omega] at c1 t1
  rw [show (p % 4 * 2 + 1) * 4 = p % 4 * 2 * 4 + 4 by omega] at c1
  rw [show baseB p + 5 + 4 = baseB p + 9 by omega, show 32 + (p % 4 * 2 + 1) = 33 + p % 4 * 2 by omega] at t1
  unfold roomB roomR
  rw [c0, c1, t0, t1]
  by_cases h1 : gI M (p % 4 * 2 * 4) < 0
  · exact ⟨p % 4 * 2, by omega, by omega, by rw [if_pos h1]; omega, by rw [if_pos h1]⟩
  · rw [if_neg h1, if_neg h1]
    by_cases h2 : gI M (p % 4 * 2 * 4 + 4) < 0
    · exact ⟨p % 4 * 2 + 1, by omega, by omega, by rw [if_pos h2]; omega, by rw [if_pos h2]⟩
    · rw [if_neg h2, if_neg h2]
      by_cases h3 : gI M (33 + p % 4 * 2) < gI M (32 + p % 4 * 2)
      · exact ⟨p % 4 * 2 + 1, by omega, by omega, by rw [if_pos h3]; omega, by rw [if_pos h3]⟩
      · exact ⟨p % 4 * 2, by omega, by omega, by rw [if_neg h3]; omega, by rw [if_neg h3]⟩
theorem BR.place {L M : List Int} (b : BR L M) (h : WB L) (e p : Int) : ∃ i, 0 ≤ i ∧ i < 8 ∧ placeB L e p = 5 * i ∧ placeR M e p = i := by
  unfold placeB placeR
  rcases b.at h e p with ⟨h1, h2⟩ | ⟨i, i0, i8, h1, h2⟩
  · rw [if_pos h2, if_pos h1]; exact b.room
  · rw [if_neg (by omega), if_neg (by omega)]; exact ⟨i, i0, i8, h2, h1⟩
theorem BR.fill {L M : List Int} (b : BR L M) (h : WB L) (e p f r : Int) : BR (fillB L e p f r) (fillR M e p f r) := by
  unfold fillB fillR
  split
  · obtain ⟨i, i0, i8, h1, h2⟩ := b.place h e p
    rw [h1, h2, b.now]; exact b.put h i0 i8
  · exact b
theorem BR.flush {L M : List Int} (b : BR L M) (h : WB L) (e p : Int) : BR (flushB L e p) (flushR M e p) := by
  unfold flushB flushR
  rcases b.at h e p with ⟨h1, h2⟩ | ⟨i, i0, i8, h1, h2⟩
  · rw [if_pos h2, if_pos h1]; exact b
  · rw [if_neg (by omega), if_neg (by omega), h1, h2]; exact b.empty h i0 i8
theorem BR.find {L M : List Int} (b : BR L M) (h : WB L) (e p k : Int) (k0 : 0 ≤ k) (k4 : k < 4) : findB L e p k = findR M e p k ∧ (atB L e p ≠ -1 ↔ rfB M e p 8 ≠ -1) := by
  unfold findB findR
  rcases b.at h e p with ⟨h1, h2⟩ | ⟨i, i0, i8, h1, h2⟩
  · rw [if_pos h2, if_pos h1]; exact ⟨rfl, by rw [h1, h2]⟩
  · rw [if_neg (by omega), if_neg (by omega), h1, h2]; exact ⟨b.cell i k i0 i8 k0 k4, by omega⟩
theorem NB.empty {L : List Int} (nb : NB L) (h : L.length = 41) {i : Int} (i0 : 0 ≤ i) (i8 : i < 8) : NB (emptyB L (5 * i)) := by
  have g := fun q hq => gI_emptyB (L := L) (o := 5 * i) (q := q) h (by omega) (by omega) hq
  refine ⟨fun j j0 j8 hj => ?_⟩
  rw [g _ (by omega)] at hj
  rw [g _ (by omega), g _ (by omega), g _ (by omega), g _ (by omega)]
  by_cases hji : j = i
  · subst hji
    rw [if_pos rfl, if_neg (by omega), if_pos (by omega), if_neg (by omega), if_pos (by omega), if_neg (by omega), if_pos (by omega)]
    exact ⟨rfl, rfl, rfl, rfl⟩
  · rw [if_neg (by omega), if_neg (by omega)] at hj
    rw [if_neg (by omega), if_neg (by omega), if_neg (by omega), if_neg (by omega), if_neg (by omega), if_neg (by omega), if_neg (by omega), if_neg (by omega)]
    exact nb.none j j0 j8 hj
theorem NB.put {L : List Int} (nb : NB L) (h : L.length = 41) {i e p f r n : Int} (i0 : 0 ≤ i) (i8 : i < 8) (e0 : 0 ≤ e) : NB (putB L (5 * i) e p f r n) := by
  have g := fun q hq => gI_putB (L := L) (o := 5 * i) (e := e) (p := p) (f := f) (r := r) (n := n) (q := q) h (by omega) (by omega) hq
  refine ⟨fun j j0 j8 hj => ?_⟩
  have hji : j ≠ i := by
    intro c; subst c
    rw [g _ (by omega), if_pos rfl] at hj; omega
  have go : ∀ c : Int, 0 ≤ c → c < 4 → gI (putB L (5 * i) e p f r n) (5 * j + c) = gI L (5 * j + c) := by
    intro c c0 c4
    rw [g _ (by omega), if_neg (by omega), if_neg (by omega), if_neg (by omega), if_neg (by omega), if_neg (by omega), if_neg (by omega)]
  have g0 := go 0 (by omega) (by omega)
  rw [Int.add_zero] at g0
  rw [g0] at hj ⊢
  rw [go 1 (by omega) (by omega), go 2 (by omega) (by omega), go 3 (by omega) (by omega)]
  exact nb.none j j0 j8 hj
theorem NB.fill {L : List Int} (nb : NB L) (h : WB L) (e p f r : Int) : NB (fillB L e p f r) := by
  unfold fillB
  split
  · rename_i hk
    simp only [lineOk, Bool.and_eq_true, decide_eq_true_eq] at hk
    obtain ⟨i, i0, i8, hi, _⟩ := h.place (e := e) (p := p) hk.1 hk.2.2.1 hk.2.2.2.1
    rw [hi]
    exact nb.put h.len i0 i8 hk.1
  · exact nb
theorem NB.flush {L : List Int} (nb : NB L) (h : WB L) (e p : Int) : NB (flushB L e p) := by
  unfold flushB
  split
  · exact nb
  · rename_i ha
    obtain ⟨i, i0, i8, hi, _⟩ := h.at_some ha
    rw [hi]; exact nb.empty h.len i0 i8
theorem evictIn_iff {s w : Int} : evictIn s w = true ↔ 0 ≤ s ∧ s < 4 ∧ 0 ≤ w ∧ w < 2 := by simp [evictIn]
theorem BR.evict {L M : List Int} (b : BR L M) (h : WB L) (nb : NB L) (s w : Int) : evictOk L s w = evictROk M s w ∧ BR (evictB L s w) (evictR M s w) ∧ WB (evictB L s w) ∧ NB (evictB L s w) := by
  have ho : evictOk L s w = (evictIn s w && decide (0 ≤ gI L (s * 10 + w * 5))) := by simp [evictOk, evictIn, Bool.and_assoc]
  unfold evictB evictR evictROk
  rw [ho]
  cases hi : evictIn s w with
  | false => simp only [Bool.false_and, Bool.false_eq_true, if_false]; exact ⟨trivial, b, h, nb⟩
  | true =>
    rw [evictIn_iff] at hi
    have i0 : 0 ≤ s * 2 + w := by omega
    have i8 : s * 2 + w < 8 := by omega
    have e5 : s * 10 + w * 5 = 5 * (s * 2 + w) := by omega
    simp only [Bool.true_and, if_true, decide_eq_true_eq]
    rw [e5, b.cell0 i0 i8]
    refine ⟨rfl, ?_⟩
    by_cases hv : 0 ≤ gI M ((s * 2 + w) * 4)
    · rw [if_pos hv]
      exact ⟨b.empty h i0 i8, h.empty i0 i8, nb.empty h.len i0 i8⟩
    · rw [if_neg hv]
      refine ⟨?_, h, nb⟩
      have hn := nb.none _ i0 i8 (by rw [b.cell0 i0 i8]; omega)
      have g' := fun q hq => gI_noneR (L := M) (i := s * 2 + w) (q := q) b.lenM (by omega) (by omega) hq
      refine ⟨by rw [noneR_len]; exact b.lenM, fun j c j0 j8 c0 c4 => ?_, fun j j0 j8 => ?_, ?_⟩
      · rw [g' _ (by omega)]
        by_cases hj : j = s * 2 + w
        · subst hj
          have : c = 0 ∨ c = 1 ∨ c = 2 ∨ c = 3 := by omega
          rcases this with rfl | rfl | rfl | rfl
          · rw [if_pos (by omega), Int.add_zero]; exact hn.1
          · rw [if_neg (by omega), if_pos (by omega)]; exact hn.2.1
          · rw [if_neg (by omega), if_pos (by omega)]; exact hn.2.2.1
          · rw [if_neg (by omega), if_pos (by omega)]; exact hn.2.2.2
        · rw [if_neg (by omega), if_neg (by omega)]; exact b.cell j c j0 j8 c0 c4
      · rw [g' _ (by omega), if_neg (by omega), if_neg (by omega)]; exact b.time j j0 j8
      · rw [g' _ (by omega), if_neg (by omega), if_neg (by omega)]; exact b.now
theorem BR.ff {L M : List Int} (b : BR L M) (h : WB L) (nb : NB L) (f : Int) : ∀ k : Nat, k ≤ 8 → BR (ffB L f k).1 (ffR M f k).1 ∧ (ffB L f k).2 = (ffR M f k).2 ∧ NB (ffB L f k).1
  | 0, _ => ⟨b, rfl, nb⟩
  | k + 1, hk => by
    obtain ⟨ib, ic, inb⟩ := b.ff h nb f k (by omega)
    have st := h.ff f k (by omega)
    have hs := ffB_succ L f k
    have hs' := ffR_succ M f k
    have e0 : (k : Int) * 5 = 5 * k := Int.mul_comm _ _
    rw [e0] at hs
    generalize ffB L f k = q at ib ic inb st hs
    generalize ffR M f k = q' at ib ic hs'
    have ck := fun c c0 c4 => st.cell k c (by omega) (by omega) c0 c4
    have k0 := ck 0 (by omega) (by omega); rw [if_neg (by omega), Int.add_zero] at k0
    have k1 := ck 1 (by omega) (by omega); rw [if_neg (by omega)] at k1
    have k2 := ck 2 (by omega) (by omega); rw [if_neg (by omega)] at k2
    rw [← ib.cell0 (by omega) (by omega), ← ib.cell k 2 (by omega) (by omega) (by omega) (by omega), k0, k2] at hs'
    by_cases hc : 0 ≤ gI L (5 * k) ∧ gI L (5 * k + 2) = f
    · have hne : atB q.1 (gI L (5 * k)) (gI L (5 * k + 1)) = 5 * (k : Int) := st.wb.at_of (by omega) (by omega) hc.1 k0 k1
      rw [if_pos ⟨hc.1, hc.2, by omega⟩] at hs
      rw [if_pos hc] at hs'
      have hfl : flushB q.1 (gI L (5 * k)) (gI L (5 * k + 1)) = emptyB q.1 (5 * k) := by
        unfold flushB; rw [hne, if_neg (by omega)]
      rw [hfl] at hs
      rw [hs, hs']
      exact ⟨ib.empty st.wb (by omega) (by omega), by simp only; rw [ic], inb.empty st.wb.len (by omega) (by omega)⟩
    · rw [if_neg (fun c => hc ⟨c.1, c.2.1⟩)] at hs
      rw [if_neg hc] at hs'
      rw [hs, hs']
      exact ⟨ib, ic, inb⟩
/-- Both alike, and in order. -/
structure TB (L M : List Int) : Prop where
  r : BR L M
  w : WB L
  n : NB L
theorem TB.fill {L M : List Int} (t : TB L M) (e p f r : Int) : TB (fillB L e p f r) (fillR M e p f r) := ⟨t.r.fill t.w e p f r, t.w.fill e p f r, t.n.fill t.w e p f r⟩
theorem TB.flush {L M : List Int} (t : TB L M) (e p : Int) : TB (flushB L e p) (flushR M e p) := ⟨t.r.flush t.w e p, t.w.flush e p, t.n.flush t.w e p⟩
theorem TB.evict {L M : List Int} (t : TB L M) (s w : Int) : TB (evictB L s w) (evictR M s w) := by
  have := t.r.evict t.w t.n s w
  exact ⟨this.2.1, this.2.2.1, this.2.2.2⟩
theorem TB.ff {L M : List Int} (t : TB L M) (f : Int) : TB (ffB L f 8).1 (ffR M f 8).1 ∧ (ffB L f 8).2 = (ffR M f 8).2 := by
  have := t.r.ff t.w t.n f 8 (Nat.le_refl 8)
  exact ⟨⟨this.1, (t.w.ff f 8 (Nat.le_refl 8)).wb, this.2.2⟩, this.2.1⟩
theorem TB.line {L M : List Int} (t : TB L M) {k c : Nat} (hk : k < 8) (hc : c < 4) : (linesB L).getD (k * 4 + c) 0 = gI M ((k : Int) * 4 + c) := by
  rw [linesB_at hk hc, Int.mul_comm]
  exact t.r.cell k c (by omega) (by omega) (by omega) (by omega)
/-- Emptied whole. -/
theorem TB.clear {L M : List Int} (t : TB L M) : TB (clearB L) (noneR (noneR (noneR (noneR (noneR (noneR (noneR (noneR M 0) 1) 2) 3) 4) 5) 6) 7) := by
  have one : ∀ {L M : List Int} (i : Int), TB L M → 0 ≤ i → i < 8 → TB (emptyB L (5 * i)) (noneR M i) := fun i t i0 i8 => ⟨t.r.empty t.w i0 i8, t.w.empty i0 i8, t.n.empty t.w.len i0 i8⟩
  have t0 := one 0 t (by omega) (by omega)
  have t1 := one 1 t0 (by omega) (by omega)
  have t2 := one 2 t1 (by omega) (by omega)
  have t3 := one 3 t2 (by omega) (by omega)
  have t4 := one 4 t3 (by omega) (by omega)
  have t5 := one 5 t4 (by omega) (by omega)
  have t6 := one 6 t5 (by omega) (by omega)
  exact one 7 t6 (by omega) (by omega)
theorem TB.start : TB (clearB (List.replicate 41 0)) [-1, 0, 0, 0, -1, 0, 0, 0, -1, 0, 0, 0, -1, 0, 0, 0, -1, 0, 0, 0, -1, 0, 0, 0, -1, 0, 0, 0, -1, 0, 0, 0, 0, 0, 0, 0, 0, 0, 0, 0, 0] := by
  have e : clearB (List.replicate 41 0) = [-1, 0, 0, 0, 0, -1, 0, 0, 0, 0, -1, 0, 0, 0, 0, -1, 0, 0, 0, 0, -1, 0, 0, 0, 0, -1, 0, 0, 0, 0, -1, 0, 0, 0, 0, -1, 0, 0, 0, 0, 0] := by decide
  refine ⟨?_, WB.start, ?_⟩
  · rw [e]
    refine ⟨rfl, fun i c i0 i8 c0 c4 => ?_, fun i i0 i8 => ?_, rfl⟩
    · have h1 : i = 0 ∨ i = 1 ∨ i = 2 ∨ i = 3 ∨ i = 4 ∨ i = 5 ∨ i = 6 ∨ i = 7 := by omega
      have h2 : c = 0 ∨ c = 1 ∨ c = 2 ∨ c = 3 := by omega
      rcases h1 with rfl | rfl | rfl | rfl | rfl | rfl | rfl | rfl <;> rcases h2 with rfl | rfl | rfl | rfl <;> rfl
    · have h1 : i = 0 ∨ i = 1 ∨ i = 2 ∨ i = 3 ∨ i = 4 ∨ i = 5 ∨ i = 6 ∨ i = 7 := by omega
      rcases h1 with rfl | rfl | rfl | rfl | rfl | rfl | rfl | rfl <;> rfl
  · rw [e]
    refine ⟨fun i i0 i8 _ => ?_⟩
    have h1 : i = 0 ∨ i = 1 ∨ i = 2 ∨ i = 3 ∨ i = 4 ∨ i = 5 ∨ i = 6 ∨ i = 7 := by omega
    rcases h1 with rfl | rfl | rfl | rfl | rfl | rfl | rfl | rfl <;> exact ⟨rfl, rfl, rfl, rfl⟩
end Go.Sx
/- What a walk computes: a buffer's list, a table's list. -/
set_option linter.unusedVariables false
namespace Go.Sx
def hitW (L : List Int) (e p k : Int) : Bool := decide (atB L e p ≠ -1) && letsB (findB L e p 3) k
def tabW (T : List Int) (p k : Int) : Bool := letsB (atV T p 2) k
def walkOk (L T : List Int) (e p k : Int) : Bool := hitW L e p k || tabW T p k
def walkV (L T : List Int) (e p k : Int) (i : Nat) : Int := if hitW L e p k then findB L e p i else if tabW T p k then ([e, p, atV T p 0, atV T p 2] : List Int).getD i 0 else 0
def walkB (L T : List Int) (e p k : Int) : List Int := if hitW L e p k then L else if tabW T p k then fillB L e p (atV T p 0) (atV T p 2) else flushB L e p
/-- A table whose entries are in order. -/
structure TV (T : List Int) : Prop where
  len : T.length = 24
  ok : ∀ p : Int, 0 ≤ p → p < 8 → tG T p 2 ≠ 0 → 0 ≤ tG T p 0 ∧ tG T p 0 < 16 ∧ 1 ≤ tG T p 2 ∧ tG T p 2 ≤ 3
theorem TV.start : TV (List.replicate 24 0) := by
  refine ⟨by simp, fun p h0 h8 h => absurd ?_ h⟩
  unfold tG
  rw [List.getD_eq_getElem?_getD, List.getElem?_replicate]
  split <;> rfl
theorem tG_int {T : List Int} {p f s r q : Int} {k : Nat} (hT : T.length = 24) (h0 : 0 ≤ p) (h8 : p < 8) (q0 : 0 ≤ q) (hk : k < 3) :
    tG (tSet3 T p f s r) q k = if q = p then (if k = 0 then f else if k = 1 then s else r) else tG T q k := by
  obtain ⟨n, rfl⟩ : ∃ n : Nat, q = n := ⟨q.toNat, by omega⟩
  exact tG_set3 hT h0 h8 hk
theorem TV.ins {T : List Int} (h : TV T) (p f s r : Int) : TV (insL T p f s r) := by
  unfold insL
  split
  · rename_i hi
    unfold insE at hi
    split at hi
    · omega
    · rename_i hc
      simp only [Bool.or_eq_true, Bool.not_eq_true', decide_eq_true_eq, not_or, Bool.not_eq_false, pageOk, Bool.and_eq_true] at hc
      obtain ⟨⟨hok, hr⟩, h0, h8⟩ := hc
      rw [pteOk_iff] at hok
      refine ⟨by rw [tSet3_len]; exact h.len, fun q q0 q8 hq => ?_⟩
      have e2 : tG (tSet3 T p f s r) q 2 = _ := tG_int (k := 2) h.len h0 h8 q0 (by omega)
      have e0 : tG (tSet3 T p f s r) q 0 = _ := tG_int (k := 0) h.len h0 h8 q0 (by omega)
      rw [e2] at hq ⊢
      rw [e0]
      by_cases hp : q = p
      · simp only [if_pos hp] at hq ⊢
        simp at hq ⊢
        omega
      · simp only [if_neg hp] at hq ⊢
        exact h.ok q q0 q8 hq
  · exact h
theorem TV.rem {T : List Int} (h : TV T) (p : Int) : TV (remL T p) := by
  unfold remL
  split
  · rename_i hi
    unfold remE at hi
    split at hi
    · omega
    · rename_i hc
      simp only [Bool.not_eq_true', Bool.not_eq_false, pageOk, Bool.and_eq_true, decide_eq_true_eq] at hc
      obtain ⟨h0, h8⟩ := hc
      refine ⟨by rw [tSet3_len]; exact h.len, fun q q0 q8 hq => ?_⟩
      have e2 : tG (tSet3 T p 0 0 0) q 2 = _ := tG_int (k := 2) h.len h0 h8 q0 (by omega)
      have e0 : tG (tSet3 T p 0 0 0) q 0 = _ := tG_int (k := 0) h.len h0 h8 q0 (by omega)
      rw [e2] at hq ⊢
      rw [e0]
      by_cases hp : q = p
      · simp only [if_pos hp] at hq
        simp at hq
      · simp only [if_neg hp] at hq ⊢
        exact h.ok q q0 q8 hq
  · exact h
/-- What is found behind a fill. -/
theorem find_fill {L : List Int} (h : WB L) {e p f r : Int} (e0 : 0 ≤ e) (e4 : e < 4) (p0 : 0 ≤ p) (p8 : p < 8) (f0 : 0 ≤ f) (f16 : f < 16) (r1 : 1 ≤ r) (r3 : r ≤ 3) :
    atB (fillB L e p f r) e p ≠ -1 ∧ findB (fillB L e p f r) e p 0 = e ∧ findB (fillB L e p f r) e p 1 = p ∧ findB (fillB L e p f r) e p 2 = f ∧ findB (fillB L e p f r) e p 3 = r := by
  have hl : lineOk e p f r = true := by simp [lineOk, rightsB]; omega
  obtain ⟨i, i0, i8, hi, _, _⟩ := h.place e0 p0 p8
  have hW := h.fill e p f r
  have hf : fillB L e p f r = putB L (5 * i) e p f r (IntKind.wrap .i64 (gI L 40 + 1)) := by unfold fillB; rw [if_pos hl, hi]
  have g := fun q hq => gI_putB (L := L) (o := 5 * i) (e := e) (p := p) (f := f) (r := r) (n := IntKind.wrap .i64 (gI L 40 + 1)) (q := q) h.len (by omega) (by omega) hq
  rw [← hf] at g
  have g0 : gI (fillB L e p f r) (5 * i) = e := by rw [g _ (by omega), if_pos rfl]
  have g1 : gI (fillB L e p f r) (5 * i + 1) = p := by rw [g _ (by omega), if_neg (by omega), if_pos rfl]
  have ha := hW.at_of i0 i8 e0 g0 g1
  have hne : ¬ (5 * i = -1) := by omega
  refine ⟨by rw [ha]; exact hne, ?_, ?_, ?_, ?_⟩ <;> unfold findB <;> rw [ha, if_neg hne]
  · rw [Int.add_zero]; exact g0
  · exact g1
  · rw [g _ (by omega), if_neg (by omega), if_neg (by omega), if_pos rfl]
  · rw [g _ (by omega), if_neg (by omega), if_neg (by omega), if_neg (by omega), if_pos rfl]
theorem find_flush {L : List Int} (h : WB L) (e p : Int) : atB (flushB L e p) e p = -1 := by
  cases Decidable.em (atB (flushB L e p) e p = -1) with
  | inl h => exact h
  | inr hne =>
    obtain ⟨i, i0, i8, hi, e0, g0, g1, _⟩ := (h.flush e p).at_some hne
    unfold flushB at g0 g1
    split at g0
    · rename_i ha
      rw [if_pos ha] at g1
      have := h.at_of i0 i8 e0 g0 g1
      omega
    · rename_i ha
      rw [if_neg ha] at g1
      obtain ⟨j, j0, j8, hj, _, k0, k1, _⟩ := h.at_some ha
      rw [hj, gI_emptyB h.len (by omega) (by omega) (by omega)] at g0 g1
      by_cases hij : i = j
      · subst hij; rw [if_pos rfl] at g0; omega
      · rw [if_neg (by omega), if_neg (by omega)] at g0 g1
        have := h.at_of i0 i8 e0 g0 g1
        omega
theorem letsB_in {r k : Int} (h : letsB r k = true) : 1 ≤ r ∧ r ≤ 3 := by
  have := @letsB_out r k
  cases Decidable.em (r < 1 ∨ 3 < r) with
  | inl c => rw [this c] at h; cases h
  | inr c => omega
/-- What a walk finds, and what is found behind it. -/
theorem walk_cases {L T : List Int} (h : WB L) (t : TV T) {e p : Int} (k : Int) (e0 : 0 ≤ e) (e4 : e < 4) (p0 : 0 ≤ p) (p8 : p < 8) :
    (hitW L e p k = true ∧ walkOk L T e p k = true ∧ walkB L T e p k = L ∧ ∀ i : Nat, walkV L T e p k i = findB L e p i) ∨
    (hitW L e p k = false ∧ tabW T p k = true ∧ walkOk L T e p k = true ∧ atOk T p = true ∧ walkV L T e p k 0 = e ∧ walkV L T e p k 1 = p ∧ walkV L T e p k 2 = atV T p 0 ∧ walkV L T e p k 3 = atV T p 2 ∧
      walkB L T e p k = fillB L e p (atV T p 0) (atV T p 2) ∧ 0 ≤ atV T p 0 ∧ atV T p 0 < 16 ∧
      atB (walkB L T e p k) e p ≠ -1 ∧ findB (walkB L T e p k) e p 0 = e ∧ findB (walkB L T e p k) e p 1 = p ∧ findB (walkB L T e p k) e p 2 = atV T p 0 ∧ findB (walkB L T e p k) e p 3 = atV T p 2) ∨
    (hitW L e p k = false ∧ tabW T p k = false ∧ walkOk L T e p k = false ∧ (∀ i : Nat, walkV L T e p k i = 0) ∧ walkB L T e p k = flushB L e p ∧ atB (walkB L T e p k) e p = -1) := by
  unfold walkOk walkB walkV
  cases hh : hitW L e p k with
  | true => left; simp
  | false =>
    right
    cases ht : tabW T p k with
    | true =>
      left
      have hr := letsB_in (show letsB (atV T p 2) k = true from ht)
      have hok : atOk T p = true := by
        cases ho : atOk T p with
        | true => rfl
        | false => unfold atV at hr; rw [ho] at hr; simp at hr
      have h2 : atV T p 2 = tG T p 2 := by unfold atV; rw [if_pos hok]
      have h0 : atV T p 0 = tG T p 0 := by unfold atV; rw [if_pos hok]
      have ho := t.ok p p0 p8 (by rw [← h2]; omega)
      rw [← h0, ← h2] at ho
      have ff := find_fill h e0 e4 p0 p8 ho.1 ho.2.1 ho.2.2.1 ho.2.2.2
      simp only [Bool.false_or, Bool.false_eq_true, if_false, if_true, hok]
      exact ⟨by first | trivial | rfl, by first | trivial | rfl, by first | trivial | rfl, by first | trivial | rfl, by first | trivial | rfl, by first | trivial | rfl, by first | trivial | rfl, by first | trivial | rfl, by first | trivial | rfl, ho.1, ho.2.1, ff⟩
    | false =>
      right
      simp only [Bool.or_false, Bool.false_eq_true, if_false]
      exact ⟨by first | trivial | rfl, by first | trivial | rfl, by first | trivial | rfl, (by intros; first | trivial | rfl), by first | trivial | rfl, find_flush h e p⟩
theorem walk_wb {L T : List Int} (h : WB L) (e p k : Int) : WB (walkB L T e p k) := by
  unfold walkB
  split
  · exact h
  · split
    · exact h.fill _ _ _ _
    · exact h.flush _ _
end Go.Sx
/- What loads and stores by a buffer, a table and a memory compute. -/
set_option linter.unusedVariables false
namespace Go.Sx
def inM (K f a : Int) : Bool := decide (0 ≤ f) && (decide (f < K) && (decide (0 ≤ a) && decide (a < 16)))
/-- The word that a load, a store finds: frame f of K frames, place a. -/
def wordM (Ls : List (List Int)) (K f a : Int) : Int := if inM K f a then (Ls.getD f.toNat []).getD a.toNat 0 else 0
def touchV (Ls : List (List Int)) (K f c0 a : Int) : Int := if c0 = 20 ∨ c0 = 22 ∨ c0 = 23 then wordM Ls K f a else 0
/-- Frame j behind it. -/
def touchL (Ls : List (List Int)) (K f c0 a c3 c4 : Int) (j : Nat) : List Int :=
  let L := Ls.getD j []
  if inM K f a ∧ f = j then
    (if c0 = 21 then L.set a.toNat c3 else if c0 = 22 then (if L.getD a.toNat 0 = c3 then L.set a.toNat c4 else L) else if c0 = 23 then L.set a.toNat (IntKind.wrap .u64 (L.getD a.toNat 0 + c3)) else L)
  else L
/-- What is wrong with a call. -/
def doE (env c0 c1 c2 c3 c4 : Int) : Int := if env < 0 ∨ 4 ≤ env then 10 else if c0 < 20 ∨ 23 < c0 then 1 else checkN c0 c1 c2 c3 c4 4
def doOk (B T : List Int) (env c0 c1 c2 c3 c4 : Int) : Bool := decide (doE env c0 c1 c2 c3 c4 = 0) && walkOk B T env c1 c0
def doR (B T : List Int) (env c0 c1 c2 c3 c4 : Int) : Int := if doE env c0 c1 c2 c3 c4 ≠ 0 then doE env c0 c1 c2 c3 c4 else if walkOk B T env c1 c0 then 0 else 7
def doV (B T : List Int) (Ls : List (List Int)) (K env c0 c1 c2 c3 c4 : Int) : Int := if doOk B T env c0 c1 c2 c3 c4 then touchV Ls K (walkV B T env c1 c0 2) c0 c2 else 0
def doW (B T : List Int) (env c0 c1 c2 c3 c4 : Int) (i : Nat) : Int := if doOk B T env c0 c1 c2 c3 c4 then walkV B T env c1 c0 i else 0
def doB (B T : List Int) (env c0 c1 c2 c3 c4 : Int) : List Int := if doE env c0 c1 c2 c3 c4 = 0 then walkB B T env c1 c0 else B
def doM (B T : List Int) (Ls : List (List Int)) (K env c0 c1 c2 c3 c4 : Int) (j : Nat) : List Int := if doOk B T env c0 c1 c2 c3 c4 then touchL Ls K (walkV B T env c1 c0 2) c0 c2 c3 c4 j else Ls.getD j []
theorem range1 {α : Type} (f : Nat → α) : (List.range 1).map f = [f 0] := rfl
theorem range2 {α : Type} (f : Nat → α) : (List.range 2).map f = [f 0, f 1] := rfl
theorem range16 {α : Type} (f : Nat → α) : (List.range 16).map f = [f 0, f 1, f 2, f 3, f 4, f 5, f 6, f 7, f 8, f 9, f 10, f 11, f 12, f 13, f 14, f 15] := rfl
theorem range3 {α : Type} (f : Nat → α) : (List.range 3).map f = [f 0, f 1, f 2] := rfl
section
variable {B T : List Int} {Ls : List (List Int)} {K env c0 c1 c2 c3 c4 : Int}
theorem do_fail (h : doE env c0 c1 c2 c3 c4 ≠ 0) : doR B T env c0 c1 c2 c3 c4 = doE env c0 c1 c2 c3 c4 ∧ doV B T Ls K env c0 c1 c2 c3 c4 = 0 ∧ (∀ i, doW B T env c0 c1 c2 c3 c4 i = 0) ∧ doB B T env c0 c1 c2 c3 c4 = B ∧ ∀ j, doM B T Ls K env c0 c1 c2 c3 c4 j = Ls.getD j [] := by
  have hk : doOk B T env c0 c1 c2 c3 c4 = false := by unfold doOk; rw [decide_eq_false h, Bool.false_and]
  refine ⟨by unfold doR; rw [if_pos h], by unfold doV; rw [hk]; rfl, fun i => by unfold doW; rw [hk]; rfl, by unfold doB; rw [if_neg h], fun j => by unfold doM; rw [hk]; rfl⟩
theorem do_fault (h : doE env c0 c1 c2 c3 c4 = 0) (hw : walkOk B T env c1 c0 = false) : doR B T env c0 c1 c2 c3 c4 = 7 ∧ doV B T Ls K env c0 c1 c2 c3 c4 = 0 ∧ (∀ i, doW B T env c0 c1 c2 c3 c4 i = 0) ∧ doB B T env c0 c1 c2 c3 c4 = walkB B T env c1 c0 ∧ ∀ j, doM B T Ls K env c0 c1 c2 c3 c4 j = Ls.getD j [] := by
  have hk : doOk B T env c0 c1 c2 c3 c4 = false := by unfold doOk; rw [hw, Bool.and_false]
  refine ⟨by unfold doR; rw [if_neg (fun c => c h), hw]; rfl, by unfold doV; rw [hk]; rfl, fun i => by unfold doW; rw [hk]; rfl, by unfold doB; rw [if_pos h], fun j => by unfold doM; rw [hk]; rfl⟩
theorem do_ok (h : doE env c0 c1 c2 c3 c4 = 0) (hw : walkOk B T env c1 c0 = true) : doR B T env c0 c1 c2 c3 c4 = 0 ∧ doV B T Ls K env c0 c1 c2 c3 c4 = touchV Ls K (walkV B T env c1 c0 2) c0 c2 ∧ (∀ i, doW B T env c0 c1 c2 c3 c4 i = walkV B T env c1 c0 i) ∧ doB B T env c0 c1 c2 c3 c4 = walkB B T env c1 c0 ∧ ∀ j, doM B T Ls K env c0 c1 c2 c3 c4 j = touchL Ls K (walkV B T env c1 c0 2) c0 c2 c3 c4 j := by
  have hk : doOk B T env c0 c1 c2 c3 c4 = true := by unfold doOk; rw [decide_eq_true h, hw]; rfl
  refine ⟨by unfold doR; rw [if_neg (fun c => c h), hw]; rfl, by unfold doV; rw [hk]; rfl, fun i => by unfold doW; rw [hk]; rfl, by unfold doB; rw [if_pos h], fun j => by unfold doM; rw [hk]; rfl⟩
end
theorem user_kind (w : Int) : (20 ≤ callN w → 20 ≤ w ∧ w ≤ 23 ∧ callN w = w) ∧ (¬ 20 ≤ callN w → w < 20 ∨ 23 < w) := by
  unfold callN
  by_cases h : callOk w = true
  · rw [if_pos h]
    simp [callOk] at h
    omega
  · rw [if_neg h]
    simp [callOk] at h
    omega
theorem argsB_user {k a b c d e : Int} (h1 : 20 ≤ k) : argsB k a b c d e = (decide (a < 8) && decide (b < 16)) := by
  have n1 : ¬ (k = 1 ∨ k = 4 ∨ k = 5) := by omega
  have n2 : ¬ k = 2 := by omega
  have n3 : ¬ k = 3 := by omega
  have n6 : ¬ k = 6 := by omega
  have n7 : ¬ k = 7 := by omega
  have n8 : ¬ k = 8 := by omega
  have n9 : ¬ k = 9 := by omega
  unfold argsB
  rw [if_neg n1, if_neg n2, if_neg n3, if_neg n6, if_neg n7, if_neg n8, if_neg n9, if_pos h1]
theorem user_args {k a b c d e : Int} (h1 : 20 ≤ k) (h2 : k ≤ 23) (h : checkN k a b c d e = 0) : a < 8 ∧ b < 16 := by
  unfold checkN at h
  have hk : callOk k = true := by simp [callOk]; omega
  rw [if_pos hk, argsB_user h1] at h
  by_cases c : (decide (a < 8) && decide (b < 16)) = true
  · simpa using c
  · rw [if_neg c] at h; omega
theorem user_fine {k a b c d e : Int} (h1 : 20 ≤ k) (h2 : k ≤ 23) (ha : a < 8) (hb : b < 16) : checkN k a b c d e = 0 := by
  unfold checkN
  have hk : callOk k = true := by simp [callOk]; omega
  rw [if_pos hk, argsB_user h1, decide_eq_true ha, decide_eq_true hb]
  rfl
theorem doE_fine {env k a b c d : Int} (e0 : 0 ≤ env) (e4 : env < 4) (h1 : 20 ≤ k) (h2 : k ≤ 23) (ha : a < 8) (hb : b < 16) : doE env k a b c d = 0 := by
  unfold doE
  rw [if_neg (by omega), if_neg (by omega)]
  exact user_fine h1 h2 ha hb
end Go.Sx
/- Buffers and tables of a few entries: what the loads and stores of UserKinds, UserMore and UserStale find. -/
set_option linter.unusedVariables false
namespace Go.Sx
abbrev b0 : List Int := clearB (List.replicate 41 0)
abbrev t0 : List Int := List.replicate 24 0
/-! UserKinds -/
def kT : List Int := insL t0 0 0 0 3
def kB1 : List Int := fillB b0 0 0 0 3
theorem k_facts : ∀ k : Nat, k < 4 → (walkOk b0 kT 0 0 ((k : Int) + 20) = true ∧ walkV b0 kT 0 0 ((k : Int) + 20) 2 = 0 ∧ walkV b0 kT 0 0 ((k : Int) + 20) 3 = 3 ∧ walkB b0 kT 0 0 ((k : Int) + 20) = kB1) ∧
    (walkOk kB1 kT 0 0 ((k : Int) + 20) = true ∧ walkV kB1 kT 0 0 ((k : Int) + 20) 2 = 0 ∧ walkV kB1 kT 0 0 ((k : Int) + 20) 3 = 3 ∧ walkB kB1 kT 0 0 ((k : Int) + 20) = kB1) := by decide +kernel
theorem k_walk {B : List Int} (hB : B = b0 ∨ B = kB1) {k : Int} (h1 : 20 ≤ k) (h2 : k ≤ 23) : walkOk B kT 0 0 k = true ∧ walkV B kT 0 0 k 2 = 0 ∧ walkV B kT 0 0 k 3 = 3 ∧ walkB B kT 0 0 k = kB1 := by
  have := k_facts (k - 20).toNat (by omega)
  rw [show (((k - 20).toNat : Nat) : Int) + 20 = k by omega] at this
  rcases hB with rfl | rfl
  · exact this.1
  · exact this.2
/-! UserMore -/
def mrB (p r : Nat) : List Int := fillB b0 1 p 0 ((r : Int) + 1)
def mrT (p s : Nat) : List Int := insL t0 p 1 0 ((s : Int) + 1)
def mrOk (p r s k : Nat) : Bool :=
  let B := mrB p r; let T := mrT p s; let q := (k : Int) + 20; let B' := walkB B T 1 p q
  if letsB ((r : Int) + 1) q then walkOk B T 1 p q && (decide (walkV B T 1 p q 2 = 0) && decide (walkV B T 1 p q 3 = (r : Int) + 1))
  else if letsB ((s : Int) + 1) q then walkOk B T 1 p q && (decide (walkV B T 1 p q 0 = 1 ∧ walkV B T 1 p q 1 = p ∧ walkV B T 1 p q 2 = 1 ∧ walkV B T 1 p q 3 = (s : Int) + 1) && (decide (atB B' 1 p ≠ -1) &&
    decide (findB B' 1 p 0 = 1 ∧ findB B' 1 p 1 = p ∧ findB B' 1 p 2 = 1 ∧ findB B' 1 p 3 = (s : Int) + 1)))
  else !walkOk B T 1 p q && decide (atB B' 1 p = -1)
theorem mr_all : ∀ p, p < 8 → ∀ r, r < 3 → ∀ s, s < 3 → ∀ k, k < 4 → mrOk p r s k = true := by decide +kernel
/-! UserStale -/
def stT (p : Nat) : List Int := insL t0 p 2 1 3
def stT' (p : Nat) : List Int := remL (stT p) p
def stB1 (e p : Nat) : List Int := walkB b0 (stT p) e p 21
def stB2 (e p : Nat) : List Int := walkB (stB1 e p) (stT' p) e p 20
def stB3 (e p : Nat) : List Int := walkB (stB2 e p) (stT' p) (((e : Int) + 1).tmod 4) p 20
def stB4 (e p : Nat) : List Int := flushB (stB3 e p) e p
def stOk (e p : Nat) : Bool :=
  decide (insE t0 p 2 1 3 = 0) && (walkOk b0 (stT p) e p 21 && (decide (walkV b0 (stT p) e p 21 0 = e ∧ walkV b0 (stT p) e p 21 1 = p ∧ walkV b0 (stT p) e p 21 2 = 2 ∧ walkV b0 (stT p) e p 21 3 = 3) &&
  (walkOk (stB1 e p) (stT' p) e p 20 && (decide (walkV (stB1 e p) (stT' p) e p 20 0 = e ∧ walkV (stB1 e p) (stT' p) e p 20 1 = p ∧ walkV (stB1 e p) (stT' p) e p 20 2 = 2 ∧ walkV (stB1 e p) (stT' p) e p 20 3 = 3) &&
  (!walkOk (stB2 e p) (stT' p) (((e : Int) + 1).tmod 4) p 20 && !walkOk (stB4 e p) (stT' p) e p 20)))))
theorem st_all : ∀ e, e < 4 → ∀ p, p < 8 → stOk e p = true := by decide +kernel
/-! One word of a frame -/
theorem getD_set_same {M : List Int} {a : Nat} {y : Int} (h : a < M.length) : (M.set a y).getD a 0 = y := by
  rw [List.getD_eq_getElem?_getD, List.getElem?_set_self h]; rfl
/-- A load, a store of the fifth word of the one frame. -/
theorem k_touch {M : List Int} {x k c3 c4 : Int} (hl : M.length = 16) (hx : M.getD 4 0 = x) (hk : k = 20 ∨ k = 21 ∨ k = 22 ∨ k = 23) :
    touchV [M] 1 0 k 4 = (if k = 21 then 0 else x) ∧ (touchL [M] 1 0 k 4 c3 c4 0).length = 16 ∧
    (touchL [M] 1 0 k 4 c3 c4 0).getD 4 0 = (if k = 21 then c3 else if k = 22 then (if x = c3 then c4 else x) else if k = 23 then IntKind.wrap .u64 (x + c3) else x) := by
  have hin : inM 1 0 4 = true := by decide
  have hm : ([M] : List (List Int)).getD 0 [] = M := rfl
  have h0 : ((0 : Int)).toNat = 0 := rfl
  have h4 : ((4 : Int)).toNat = 4 := rfl
  have hc : inM 1 0 4 = true ∧ (0 : Int) = ((0 : Nat) : Int) := ⟨hin, rfl⟩
  unfold touchV touchL wordM
  simp only [hm, h0, h4, hx, if_pos hin, if_pos hc]
  have hx' : M[4]?.getD 0 = x := by rw [← List.getD_eq_getElem?_getD]; exact hx
  rcases hk with rfl | rfl | rfl | rfl
  · refine ⟨by simp, by simp [hl], ?_⟩
    simp only [show ¬ ((20 : Int) = 21) by decide, show ¬ ((20 : Int) = 22) by decide, show ¬ ((20 : Int) = 23) by decide, if_false]
    exact hx
  · simp [hl]
  · by_cases c : x = c3
    · simp [c, hl]
    · refine ⟨by simp, by simp [if_neg c, hl], ?_⟩
      simp only [show ¬ ((22 : Int) = 21) by decide, if_true, if_neg c, if_false]
      exact hx
  · simp [hl]
theorem touchL_len {Ls : List (List Int)} {K f c0 a c3 c4 : Int} {j : Nat} : (touchL Ls K f c0 a c3 c4 j).length = (Ls.getD j []).length := by
  unfold touchL
  dsimp only
  repeat' split
  all_goals simp
theorem doM_len {B T : List Int} {Ls : List (List Int)} {K env c0 c1 c2 c3 c4 : Int} {j : Nat} : (doM B T Ls K env c0 c1 c2 c3 c4 j).length = (Ls.getD j []).length := by
  unfold doM
  split
  · exact touchL_len
  · rfl
structure StSt (e p : Nat) : Prop where
  ins : insE t0 p 2 1 3 = 0
  ok1 : walkOk b0 (stT p) e p 21 = true
  v1 : walkV b0 (stT p) e p 21 0 = e ∧ walkV b0 (stT p) e p 21 1 = p ∧ walkV b0 (stT p) e p 21 2 = 2 ∧ walkV b0 (stT p) e p 21 3 = 3
  ok2 : walkOk (stB1 e p) (stT' p) e p 20 = true
  v2 : walkV (stB1 e p) (stT' p) e p 20 0 = e ∧ walkV (stB1 e p) (stT' p) e p 20 1 = p ∧ walkV (stB1 e p) (stT' p) e p 20 2 = 2 ∧ walkV (stB1 e p) (stT' p) e p 20 3 = 3
  no3 : walkOk (stB2 e p) (stT' p) (((e : Int) + 1).tmod 4) p 20 = false
  no4 : walkOk (stB4 e p) (stT' p) e p 20 = false
theorem st_st {e p : Nat} (he : e < 4) (hp : p < 8) : StSt e p := by
  have h := st_all e he p hp
  simp only [stOk, Bool.and_eq_true, decide_eq_true_eq, Bool.not_eq_true'] at h
  obtain ⟨h1, h2, h3, h4, h5, h6, h7⟩ := h
  exact ⟨h1, h2, h3, h4, h5, h6, h7⟩
/-- A store in the third of three frames, a load of it. -/
theorem st_store {M0 M1 M2 : List Int} {a : Nat} {v : Int} : touchL [M0, M1, M2] 3 2 21 a v 0 2 = if a < 16 then M2.set a v else M2 := by
  unfold touchL
  have hm : ([M0, M1, M2] : List (List Int)).getD 2 [] = M2 := rfl
  simp only [hm]
  by_cases h : a < 16
  · rw [if_pos h, if_pos (by refine ⟨?_, rfl⟩; simp [inM]; omega)]
    simp
  · rw [if_neg h, if_neg (by intro c; have := c.1; simp [inM] at this; omega)]
theorem st_load {M0 M1 M2 : List Int} {a : Nat} (h : a < 16) : touchV [M0, M1, M2] 3 2 20 a = M2.getD a 0 := by
  unfold touchV wordM
  rw [if_pos (.inl rfl), if_pos (by simp [inM]; omega)]
  rfl
end Go.Sx
/- A load, a store in a memory of many frames. -/
set_option linter.unusedVariables false
namespace Go.Sx
section
variable {Ls : List (List Int)} {K : Nat} {f a c3 c4 : Int} {c0 : Int}
theorem map_same (h : Ls.length = K) {g : Nat → List Int} (hg : ∀ j, j < K → g j = Ls.getD j []) : Ls = (List.range K).map g := by
  apply List.ext_getElem?
  intro i
  by_cases hi : i < K
  · rw [List.getElem?_map, List.getElem?_range hi, Option.map_some, hg i hi, List.getD_eq_getElem?_getD, List.getElem?_eq_getElem (by omega)]; rfl
  · rw [List.getElem?_eq_none (by omega), List.getElem?_eq_none (by simp; omega)]
theorem map_set (h : Ls.length = K) {g : Nat → List Int} {j : Nat} {y : List Int} (hj : j < K) (hy : g j = y) (hg : ∀ i, i < K → i ≠ j → g i = Ls.getD i []) : Ls.set j y = (List.range K).map g := by
  apply List.ext_getElem?
  intro i
  by_cases hi : i < K
  · rw [List.getElem?_map, List.getElem?_range hi, Option.map_some]
    by_cases hij : i = j
    · subst hij
      rw [List.getElem?_set_self (by omega), hy]
    · rw [List.getElem?_set_ne (fun c => hij c.symm), hg i hi hij, List.getD_eq_getElem?_getD, List.getElem?_eq_getElem (by omega)]; rfl
  · rw [List.getElem?_eq_none (by simp; omega), List.getElem?_eq_none (by simp; omega)]
theorem touchL_ne {i : Nat} (h : f ≠ i) : touchL Ls K f c0 a c3 c4 i = Ls.getD i [] := by
  unfold touchL; dsimp only; rw [if_neg (fun c => h c.2)]
theorem tOut (hl : Ls.length = K) (h : inM K f a = false) : [(0 : Int)] = [touchV Ls K f c0 a] ∧ Ls = (List.range K).map fun j => touchL Ls K f c0 a c3 c4 j := by
  refine ⟨by unfold touchV wordM; rw [h]; simp, map_same hl fun j _ => ?_⟩
  unfold touchL; dsimp only; rw [h]; simp
variable (hl : Ls.length = K) {j : Nat} (hj : j < K) (hf : f = (j : Int)) (a0 : 0 ≤ a) (a16 : a < 16)
include hj hf a0 a16
theorem inM_at : inM K f a = true := by subst hf; simp [inM]; omega
theorem word_at : wordM Ls K f a = (Ls.getD j []).getD a.toNat 0 := by
  unfold wordM; rw [if_pos (inM_at hj hf a0 a16), hf, Int.toNat_natCast]
include hl
theorem tLd {x : Int} (hx : x = (Ls.getD j []).getD a.toNat 0) : [x] = [touchV Ls K f 20 a] ∧ Ls = (List.range K).map fun j => touchL Ls K f 20 a c3 c4 j := by
  refine ⟨by unfold touchV; rw [if_pos (.inl rfl), word_at hj hf a0 a16, hx], map_same hl fun j _ => ?_⟩
  unfold touchL; dsimp only; simp
theorem tSt {y : List Int} (hy : y = (Ls.getD j []).set a.toNat c3) : [(0 : Int)] = [touchV Ls K f 21 a] ∧ Ls.set j y = (List.range K).map fun j => touchL Ls K f 21 a c3 c4 j := by
  refine ⟨by unfold touchV; simp, map_set hl hj ?_ fun i hi hij => touchL_ne (by omega)⟩
  unfold touchL; dsimp only; rw [if_pos ⟨inM_at hj hf a0 a16, hf⟩, hy]; simp
theorem tCasY {x : Int} {y : List Int} (hx : x = (Ls.getD j []).getD a.toNat 0) (hc : c3 = x) (hy : y = (Ls.getD j []).set a.toNat c4) : [x] = [touchV Ls K f 22 a] ∧ Ls.set j y = (List.range K).map fun j => touchL Ls K f 22 a c3 c4 j := by
  refine ⟨by unfold touchV; rw [if_pos (by simp), word_at hj hf a0 a16, hx], map_set hl hj ?_ fun i hi hij => touchL_ne (by omega)⟩
  unfold touchL; dsimp only; rw [if_pos ⟨inM_at hj hf a0 a16, hf⟩, if_neg (by decide), if_pos rfl, if_pos (by rw [hc, hx]), hy]
theorem tCasN {x : Int} (hx : x = (Ls.getD j []).getD a.toNat 0) (hc : c3 ≠ x) : [x] = [touchV Ls K f 22 a] ∧ Ls = (List.range K).map fun j => touchL Ls K f 22 a c3 c4 j := by
  refine ⟨by unfold touchV; rw [if_pos (by simp), word_at hj hf a0 a16, hx], map_same hl fun i _ => ?_⟩
  by_cases hij : i = j
  · subst hij
    unfold touchL; dsimp only; rw [if_pos ⟨inM_at hj hf a0 a16, hf⟩, if_neg (by decide), if_pos rfl, if_neg (fun c => hc (by rw [hx, c]))]
  · exact touchL_ne (by omega)
theorem tAdd {x z : Int} {y : List Int} (hx : x = (Ls.getD j []).getD a.toNat 0) (hz : z = IntKind.wrap .u64 (x + c3)) (hy : y = (Ls.getD j []).set a.toNat z) : [x] = [touchV Ls K f 23 a] ∧ Ls.set j y = (List.range K).map fun j => touchL Ls K f 23 a c3 c4 j := by
  refine ⟨by unfold touchV; rw [if_pos (by simp), word_at hj hf a0 a16, hx], map_set hl hj ?_ fun i hi hij => touchL_ne (by omega)⟩
  unfold touchL; dsimp only; rw [if_pos ⟨inM_at hj hf a0 a16, hf⟩, if_neg (by decide), if_neg (by decide), if_pos rfl, hy, hz, hx]
end
theorem tNone {Ls : List (List Int)} {K : Nat} {f a c0 c3 c4 : Int} (hl : Ls.length = K) (h : c0 < 20 ∨ 23 < c0) : [(0 : Int)] = [touchV Ls K f c0 a] ∧ Ls = (List.range K).map fun j => touchL Ls K f c0 a c3 c4 j := by
  refine ⟨by unfold touchV; rw [if_neg (by omega)], map_same hl fun j _ => ?_⟩
  unfold touchL; dsimp only
  rw [if_neg (by omega : ¬ c0 = 21), if_neg (by omega : ¬ c0 = 22), if_neg (by omega : ¬ c0 = 23)]
  simp
end Go.Sx
/- The document's kernel's memory: 256 words behind 259 other numbers; it goes with a memory of sixteen frames. -/
set_option linter.unusedVariables false
namespace Go.Sx
def idK (f a : Int) : Nat := (259 + f * 16 + a).toNat
def wkV (L : List Int) (f k a : Int) : Int := if k = 21 then 0 else L.getD (idK f a) 0
def wkL (L : List Int) (f k a c3 c4 : Int) : List Int :=
  if k = 21 then L.set (idK f a) c3 else if k = 22 then (if L.getD (idK f a) 0 = c3 then L.set (idK f a) c4 else L) else if k = 23 then L.set (idK f a) (IntKind.wrap .u64 (L.getD (idK f a) 0 + c3)) else L
/-- The memory's frames and the document's. -/
structure MR (Ms : List (List Int)) (L : List Int) : Prop where
  num : Ms.length = 16
  len : ∀ j : Nat, j < 16 → (Ms.getD j []).length = 16
  lenK : L.length = 515
  eq : ∀ f a : Nat, f < 16 → a < 16 → (Ms.getD f []).getD a 0 = L.getD (259 + 16 * f + a) 0
theorem getD_map_range {g : Nat → List Int} {j : Nat} (h : j < 16) : ((List.range 16).map g).getD j [] = g j := by
  rw [List.getD_eq_getElem?_getD, List.getElem?_map, List.getElem?_range h]; rfl
theorem getD_set_at {L : List Int} {n q : Nat} {v : Int} (hn : n < L.length) : (L.set n v).getD q 0 = if q = n then v else L.getD q 0 := by
  simp only [List.getD_eq_getElem?_getD, List.getElem?_set]
  by_cases h : n = q
  · subst h; simp [hn]
  · have h' : ¬ q = n := fun c => h c.symm
    simp [h, h']
theorem MR.word {Ms : List (List Int)} {L : List Int} (h : MR Ms L) {f k a : Int} (f0 : 0 ≤ f) (f16 : f < 16) (a0 : 0 ≤ a) (a16 : a < 16) (hk : k = 20 ∨ k = 21 ∨ k = 22 ∨ k = 23) : touchV Ms 16 f k a = wkV L f k a := by
  obtain ⟨f, rfl⟩ : ∃ n : Nat, f = n := ⟨f.toNat, by omega⟩
  obtain ⟨a, rfl⟩ : ∃ n : Nat, a = n := ⟨a.toNat, by omega⟩
  have hw := word_at (Ls := Ms) (K := 16) (j := f) (f := (f : Int)) (a := (a : Int)) (by omega) rfl (by omega) (by omega)
  have he := h.eq f a (by omega) (by omega)
  have hi : idK f a = 259 + 16 * f + a := by unfold idK; omega
  unfold touchV wkV
  rw [show ((16 : Nat) : Int) = 16 from rfl] at hw
  rw [hw, Int.toNat_natCast, he, hi]
  rcases hk with rfl | rfl | rfl | rfl <;> simp
theorem MR.touch {Ms : List (List Int)} {L : List Int} (h : MR Ms L) {f k a c3 c4 : Int} (f0 : 0 ≤ f) (f16 : f < 16) (a0 : 0 ≤ a) (a16 : a < 16) (hk : k = 20 ∨ k = 21 ∨ k = 22 ∨ k = 23) :
    MR ((List.range 16).map fun j => touchL Ms 16 f k a c3 c4 j) (wkL L f k a c3 c4) := by
  obtain ⟨f, rfl⟩ : ∃ n : Nat, f = n := ⟨f.toNat, by omega⟩
  obtain ⟨a, rfl⟩ : ∃ n : Nat, a = n := ⟨a.toNat, by omega⟩
  have hi : idK f a = 259 + 16 * f + a := by unfold idK; omega
  have hlK := h.lenK
  have he := h.eq f a (by omega) (by omega)
  have hin : inM 16 (f : Int) (a : Int) = true := inM_at (K := 16) (j := f) (by omega) rfl (by omega) (by omega)
  have hlf := h.len f (by omega)
  -- one new word
  have upd : ∀ y : Int, ∀ g a' : Nat, g < 16 → a' < 16 → (if (f : Int) = (g : Int) then (Ms.getD g []).set a y else Ms.getD g []).getD a' 0 = (L.set (259 + 16 * f + a) y).getD (259 + 16 * g + a') 0 := by
    intro y g a' hg ha'
    rw [getD_set_at (by omega)]
    by_cases hfg : (f : Int) = (g : Int)
    · have : f = g := by omega
      subst this
      rw [if_pos rfl, getD_set_at (by omega)]
      by_cases haa : a' = a
      · rw [if_pos haa, if_pos (by omega)]
      · rw [if_neg haa, if_neg (by omega)]; exact h.eq f a' (by omega) ha'
    · rw [if_neg hfg, if_neg (by omega)]; exact h.eq g a' hg ha'
  refine ⟨by simp, fun j hj => by rw [getD_map_range hj, touchL_len]; exact h.len j hj, ?_, fun g a' hg ha' => ?_⟩
  · unfold wkL
    repeat' split
    all_goals simp [hlK]
  · rw [getD_map_range hg]
    unfold touchL wkL
    dsimp only
    rw [hi, Int.toNat_natCast]
    by_cases hfg : (f : Int) = (g : Int)
    · have hfg' : f = g := by omega
      subst hfg'
      rw [if_pos ⟨hin, rfl⟩]
      rcases hk with rfl | rfl | rfl | rfl
      · rw [if_neg (by decide : ¬ (20 : Int) = 21), if_neg (by decide : ¬ (20 : Int) = 22), if_neg (by decide : ¬ (20 : Int) = 23), if_neg (by decide : ¬ (20 : Int) = 21), if_neg (by decide : ¬ (20 : Int) = 22), if_neg (by decide : ¬ (20 : Int) = 23)]
        exact h.eq f a' (by omega) ha'
      · rw [if_pos rfl, if_pos rfl]
        have := upd c3 f a' (by omega) ha'
        rw [if_pos rfl] at this; exact this
      · rw [if_neg (by decide : ¬ (22 : Int) = 21), if_pos (rfl : (22 : Int) = 22), he, if_neg (by decide : ¬ (22 : Int) = 21), if_pos (rfl : (22 : Int) = 22)]
        by_cases c : L.getD (259 + 16 * f + a) 0 = c3
        · rw [if_pos c, if_pos c]
          have := upd c4 f a' (by omega) ha'
          rw [if_pos rfl] at this; exact this
        · rw [if_neg c, if_neg c]; exact h.eq f a' (by omega) ha'
      · rw [if_neg (by decide : ¬ (23 : Int) = 21), if_neg (by decide : ¬ (23 : Int) = 22), if_pos (rfl : (23 : Int) = 23), he, if_neg (by decide : ¬ (23 : Int) = 21), if_neg (by decide : ¬ (23 : Int) = 22), if_pos (rfl : (23 : Int) = 23)]
        have := upd (IntKind.wrap .u64 (L.getD (259 + 16 * f + a) 0 + c3)) f a' (by omega) ha'
        rw [if_pos rfl] at this; exact this
    · rw [if_neg (fun c => hfg c.2)]
      have key : ∀ y : Int, (Ms.getD g []).getD a' 0 = (L.set (259 + 16 * f + a) y).getD (259 + 16 * g + a') 0 := fun y => by
        have := upd y g a' hg ha'
        rw [if_neg hfg] at this; exact this
      repeat' split
      all_goals first | exact key _ | exact h.eq g a' hg ha'
end Go.Sx
/- What the functions of capabilities compute: a list of four numbers (frame, rights, parent's environment, parent's slot) to a slot, eight slots to an environment. -/
set_option linter.unusedVariables false
namespace Go.Sx
def cG (L : List Int) (e s k : Int) : Int := L.getD (e * 32 + s * 4 + k).toNat 0
def plOk (n e s : Int) : Bool := decide (0 ≤ e) && decide (e < n) && decide (0 ≤ s) && decide (s < 8)
def capOk (n : Int) (L : List Int) (e s : Int) : Bool := plOk n e s && decide (cG L e s 1 ≠ 0)
def capV (n : Int) (L : List Int) (e s k : Int) : Int := if capOk n L e s then cG L e s k else 0
def cSet (L : List Int) (e s f r pe ps : Int) : List Int := (((L.set (e * 32 + s * 4).toNat f).set (e * 32 + s * 4 + 1).toNat r).set (e * 32 + s * 4 + 2).toNat pe).set (e * 32 + s * 4 + 3).toNat ps
def rootE (n : Int) (L : List Int) (e s f : Int) : Int := if !plOk n e s || decide (f < 0) || decide (16 ≤ f) then 2 else if cG L e s 1 ≠ 0 then 4 else 0
def rootL (n : Int) (L : List Int) (e s f : Int) : List Int := if rootE n L e s f = 0 then cSet L e s f 3 (-1) 0 else L
def derE (n : Int) (L : List Int) (e s t d r : Int) : Int :=
  if !plOk n e s || !plOk n t d || !rightsB r then 2 else if cG L e s 1 = 0 then 3 else if cG L t d 1 ≠ 0 then 4 else if !withinB r (cG L e s 1) then 5 else 0
def derL (n : Int) (L : List Int) (e s t d r : Int) : List Int := if derE n L e s t d r = 0 then cSet L t d (cG L e s 0) r e s else L
/-- Does the capability with these rights and this parent come from a place? -/
def undC (L : List Int) (e s : Int) : Nat → Int → Int → Int → Bool
  | 0, _, _, _ => false
  | n + 1, r, pe, ps => if r = 0 ∨ pe < 0 then false else if pe = e ∧ ps = s then true else undC L e s n (cG L pe ps 1) (cG L pe ps 2) (cG L pe ps 3)
/-- Does its chain of parents end within so many steps? -/
def endC (L : List Int) : Nat → Int → Int → Int → Bool
  | 0, _, _, _ => false
  | n + 1, r, pe, ps => if r = 0 ∨ pe < 0 then true else endC L n (cG L pe ps 1) (cG L pe ps 2) (cG L pe ps 3)
/-- How many steps it takes. -/
def depC (L : List Int) : Nat → Int → Int → Int → Nat
  | 0, _, _, _ => 0
  | n + 1, r, pe, ps => if r = 0 ∨ pe < 0 then 0 else depC L n (cG L pe ps 1) (cG L pe ps 2) (cG L pe ps 3) + 1
/-- A tree whose parents are places, and whose chains end. -/
structure CV (n : Int) (L : List Int) : Prop where
  len : (L.length : Int) = n * 32
  par : ∀ e s : Int, 0 ≤ e → e < n → 0 ≤ s → s < 8 → cG L e s 1 ≠ 0 → 0 ≤ cG L e s 2 → cG L e s 2 < n ∧ 0 ≤ cG L e s 3 ∧ cG L e s 3 < 8
  ends : ∀ e s : Int, 0 ≤ e → e < n → 0 ≤ s → s < 8 → endC L 33 (cG L e s 1) (cG L e s 2) (cG L e s 3) = true
/-- The places of which something holds, in order, as a list of numbers. -/
def rowC (q : Int → Int → Bool) (e : Int) : Nat → List Int
  | 0 => []
  | k + 1 => if q e k then rowC q e k ++ [e, (k : Int)] else rowC q e k
def selC (q : Int → Int → Bool) : Nat → List Int
  | 0 => []
  | m + 1 => selC q m ++ rowC q m 8
def qBelow (L : List Int) (e s a b : Int) : Bool := decide (cG L a b 1 ≠ 0) && undC L e s 33 (cG L a b 1) (cG L a b 2) (cG L a b 3)
def qOf (L : List Int) (f a b : Int) : Bool := decide (cG L a b 1 ≠ 0) && decide (cG L a b 0 = f)
def qDrop (L : List Int) (e s a b : Int) : Bool := decide (cG L a b 1 ≠ 0) && (decide (a = e ∧ b = s) || undC L e s 33 (cG L a b 1) (cG L a b 2) (cG L a b 3))
def belowL (n : Int) (L : List Int) (e s : Int) : List Int := selC (qBelow L e s) n.toNat
def ofL (n : Int) (L : List Int) (f : Int) : List Int := selC (qOf L f) n.toNat
def dropL (n : Int) (L : List Int) (e s : Int) : List Int := selC (qDrop L e s) n.toNat
/-- Slots emptied, one after another: of the first k places. -/
def emptyK (L W : List Int) : Nat → List Int
  | 0 => L
  | k + 1 => cSet (emptyK L W k) (W.getD (2 * k) 0) (W.getD (2 * k + 1) 0) 0 0 0 0
def emptyC (L W : List Int) : List Int := emptyK L W (W.length / 2)
def lookE (n : Int) (L : List Int) (e s : Int) : Int := if !plOk n e s then 2 else if cG L e s 1 = 0 then 3 else 0
theorem rowC_succ (q : Int → Int → Bool) (e : Int) (k : Nat) : rowC q e (k + 1) = if q e k then rowC q e k ++ [e, (k : Int)] else rowC q e k := rfl
theorem selC_succ (q : Int → Int → Bool) (m : Nat) : selC q (m + 1) = selC q m ++ rowC q m 8 := rfl
theorem rowC_len (q : Int → Int → Bool) (e : Int) : ∀ k : Nat, (rowC q e k).length ≤ 2 * k ∧ (rowC q e k).length % 2 = 0
  | 0 => by simp [rowC]
  | k + 1 => by
    have := rowC_len q e k
    rw [rowC_succ]
    split
    · rw [List.length_append]; simp only [List.length_cons, List.length_nil]; omega
    · omega
theorem selC_len (q : Int → Int → Bool) : ∀ m : Nat, (selC q m).length ≤ 16 * m ∧ (selC q m).length % 2 = 0
  | 0 => by simp [selC]
  | m + 1 => by
    have := selC_len q m
    have := rowC_len q m 8
    rw [selC_succ, List.length_append]; omega
theorem endC_succ (L : List Int) (n : Nat) (r pe ps : Int) : endC L (n + 1) r pe ps = if r = 0 ∨ pe < 0 then true else endC L n (cG L pe ps 1) (cG L pe ps 2) (cG L pe ps 3) := rfl
theorem undC_succ (L : List Int) (e s : Int) (n : Nat) (r pe ps : Int) : undC L e s (n + 1) r pe ps = if r = 0 ∨ pe < 0 then false else if pe = e ∧ ps = s then true else undC L e s n (cG L pe ps 1) (cG L pe ps 2) (cG L pe ps 3) := rfl
theorem depC_succ (L : List Int) (n : Nat) (r pe ps : Int) : depC L (n + 1) r pe ps = if r = 0 ∨ pe < 0 then 0 else depC L n (cG L pe ps 1) (cG L pe ps 2) (cG L pe ps 3) + 1 := rfl
theorem depC_eq {L : List Int} : ∀ {n a b : Nat} {r pe ps : Int}, endC L n r pe ps = true → n ≤ a → n ≤ b → depC L a r pe ps = depC L b r pe ps
  | 0, _, _, _, _, _, h, _, _ => by cases h
  | n + 1, 0, _, _, _, _, h, ha, _ => absurd ha (by omega)
  | n + 1, a + 1, 0, _, _, _, h, _, hb => absurd hb (by omega)
  | n + 1, a + 1, b + 1, r, pe, ps, h, ha, hb => by
    rw [depC_succ, depC_succ]
    rw [endC_succ] at h
    split
    · rfl
    · rename_i hc
      rw [if_neg hc] at h
      rw [depC_eq (a := a) (b := b) h (by omega) (by omega)]
theorem cG0 (L : List Int) (e s : Int) : cG L e s 0 = L.getD (e * 32 + s * 4).toNat 0 := by unfold cG; rw [Int.add_zero]
theorem rows_read {R L : List Int} {b : Int} (h : R = (List.range 32).map fun (j : Nat) => L.getD (b + (j : Int)).toNat 0) {j : Nat} (hj : j < 32) : R.getD j 0 = L.getD (b + (j : Int)).toNat 0 := by
  rw [h, List.getD_eq_getElem?_getD, List.getElem?_map, List.getElem?_range hj]; rfl
/-- A slot's four numbers, out of the numbers of its environment's slots. -/
theorem rows_cG {R L : List Int} {m : Nat} (h : R = (List.range 32).map fun (j : Nat) => L.getD ((m : Int) * 32 + (j : Int)).toNat 0) {k i : Nat} (hk : k < 8) (hi : i < 4) : R.getD ((k : Int) * 4 + (i : Int)).toNat 0 = cG L m k i := by
  rw [show ((k : Int) * 4 + (i : Int)).toNat = k * 4 + i by omega, rows_read h (by omega)]
  unfold cG
  congr 2
  push_cast
  omega
theorem cSet_len {L : List Int} {e s f r pe ps : Int} : (cSet L e s f r pe ps).length = L.length := by simp [cSet]
theorem emptyK_len (L W : List Int) : ∀ k : Nat, (emptyK L W k).length = L.length
  | 0 => rfl
  | k + 1 => by rw [emptyK, cSet_len, emptyK_len]
/-- A list of places. -/
structure PlsOk (n : Int) (W : List Int) : Prop where
  even : W.length % 2 = 0
  ok : ∀ j : Nat, 2 * j + 1 < W.length → 0 ≤ W.getD (2 * j) 0 ∧ W.getD (2 * j) 0 < n ∧ 0 ≤ W.getD (2 * j + 1) 0 ∧ W.getD (2 * j + 1) 0 < 8
theorem PlsOk.nil (n : Int) : PlsOk n [] := ⟨rfl, fun j h => by simp at h⟩
theorem getD_left {l m : List Int} {i : Nat} (h : i < l.length) : (l ++ m).getD i 0 = l.getD i 0 := by simp [List.getD, List.getElem?_append_left h]
theorem getD_right {l m : List Int} {i : Nat} (h : l.length ≤ i) : (l ++ m).getD i 0 = m.getD (i - l.length) 0 := by simp [List.getD, List.getElem?_append_right h]
theorem PlsOk.app {n : Int} {W V : List Int} (h : PlsOk n W) (g : PlsOk n V) : PlsOk n (W ++ V) := by
  have e1 := h.even
  have e2 := g.even
  refine ⟨by rw [List.length_append]; omega, fun j hj => ?_⟩
  rw [List.length_append] at hj
  by_cases c : 2 * j + 1 < W.length
  · rw [getD_left (by omega), getD_left c]; exact h.ok j c
  · rw [getD_right (by omega), getD_right (by omega)]
    have := g.ok (j - W.length / 2) (by omega)
    rw [show 2 * (j - W.length / 2) = 2 * j - W.length by omega, show 2 * j - W.length + 1 = 2 * j + 1 - W.length by omega] at this
    exact this
theorem PlsOk.two {n a b : Int} (h1 : 0 ≤ a) (h2 : a < n) (h3 : 0 ≤ b) (h4 : b < 8) : PlsOk n [a, b] := by
  refine ⟨by simp, fun j hj => ?_⟩
  have : j = 0 := by simp at hj; omega
  subst this
  exact ⟨h1, h2, h3, h4⟩
theorem rowC_ok {q : Int → Int → Bool} {n e : Int} (h0 : 0 ≤ e) (hn : e < n) : ∀ k : Nat, k ≤ 8 → PlsOk n (rowC q e k)
  | 0, _ => PlsOk.nil n
  | k + 1, hk => by
    rw [rowC_succ]
    split
    · exact (rowC_ok h0 hn k (by omega)).app (PlsOk.two h0 hn (by omega) (by omega))
    · exact rowC_ok h0 hn k (by omega)
theorem selC_ok {q : Int → Int → Bool} {n : Int} : ∀ m : Nat, (m : Int) ≤ n → PlsOk n (selC q m)
  | 0, _ => PlsOk.nil n
  | m + 1, hm => by
    rw [selC_succ]
    exact (selC_ok m (by omega)).app (rowC_ok (by omega) (by omega) 8 (Nat.le_refl 8))
/-- A tree is in order, decided. -/
def cvB (n : Nat) (L : List Int) : Bool :=
  decide (L.length = n * 32) && ((List.range n).all fun (e : Nat) => (List.range 8).all fun (s : Nat) =>
    (decide (cG L e s 1 = 0) || decide (cG L e s 2 < 0) || (decide (cG L e s 2 < n) && decide (0 ≤ cG L e s 3) && decide (cG L e s 3 < 8))) && endC L 33 (cG L e s 1) (cG L e s 2) (cG L e s 3))
theorem cvB_ok {n : Nat} {L : List Int} (h : cvB n L = true) : CV n L := by
  simp only [cvB, Bool.and_eq_true, decide_eq_true_eq, List.all_eq_true, List.mem_range] at h
  obtain ⟨h1, h2⟩ := h
  refine ⟨by rw [h1]; push_cast; rfl, fun e s e0 e1 s0 s1 hr hp => ?_, fun e s e0 e1 s0 s1 => ?_⟩
  · obtain ⟨e, rfl⟩ : ∃ m : Nat, e = m := ⟨e.toNat, by omega⟩
    obtain ⟨s, rfl⟩ : ∃ m : Nat, s = m := ⟨s.toNat, by omega⟩
    have := (h2 e (by omega) s (by omega)).1
    simp only [Bool.or_eq_true, Bool.and_eq_true, decide_eq_true_eq] at this
    omega
  · obtain ⟨e, rfl⟩ : ∃ m : Nat, e = m := ⟨e.toNat, by omega⟩
    obtain ⟨s, rfl⟩ : ∃ m : Nat, s = m := ⟨s.toNat, by omega⟩
    exact (h2 e (by omega) s (by omega)).2
theorem getD_setC {L : List Int} {n q : Nat} {v : Int} (hn : n < L.length) : (L.set n v).getD q 0 = if q = n then v else L.getD q 0 := by
  simp only [List.getD_eq_getElem?_getD, List.getElem?_set]
  by_cases h : n = q
  · subst h; simp [hn]
  · have h' : ¬ q = n := fun c => h c.symm
    simp [h, h']
theorem cG_set {L : List Int} {n e s f r pe ps e' s' : Int} {k : Nat} (hL : (L.length : Int) = n * 32) (e0 : 0 ≤ e) (en : e < n) (s0 : 0 ≤ s) (s8 : s < 8) (e0' : 0 ≤ e') (s0' : 0 ≤ s') (s8' : s' < 8) (hk : k < 4) :
    cG (cSet L e s f r pe ps) e' s' k = if e' = e ∧ s' = s then ([f, r, pe, ps] : List Int).getD k 0 else cG L e' s' k := by
  unfold cG cSet
  rw [getD_setC (by simp; omega), getD_setC (by simp; omega), getD_setC (by simp; omega), getD_setC (by omega)]
  by_cases h : e' = e ∧ s' = s
  · obtain ⟨rfl, rfl⟩ := h
    rw [if_pos (c := e' = e' ∧ s' = s') ⟨rfl, rfl⟩]
    have : k = 0 ∨ k = 1 ∨ k = 2 ∨ k = 3 := by omega
    rcases this with rfl | rfl | rfl | rfl
    · rw [if_neg (by omega), if_neg (by omega), if_neg (by omega), if_pos (by omega)]; rfl
    · rw [if_neg (by omega), if_neg (by omega), if_pos (by omega)]; rfl
    · rw [if_neg (by omega), if_pos (by omega)]; rfl
    · rw [if_pos (by omega)]; rfl
  · rw [if_neg h, if_neg (by omega), if_neg (by omega), if_neg (by omega), if_neg (by omega)]
/-- CapsRights: a chain of capabilities in one environment. -/
structure RT (T : List Int) (a : Nat) (has : Int) : Prop where
  len : T.length = 32
  rights : cG T 0 a 1 = has
  frame : cG T 0 a 0 = 1
  free : ∀ s : Nat, s < 8 → a < s → cG T 0 s 1 = 0
theorem RT.start : RT (rootL 1 [0, 0, 0, 0, 0, 0, 0, 0, 0, 0, 0, 0, 0, 0, 0, 0, 0, 0, 0, 0, 0, 0, 0, 0, 0, 0, 0, 0, 0, 0, 0, 0] 0 0 1) 0 3 :=
  ⟨by decide +kernel, by decide +kernel, by decide +kernel, by decide +kernel⟩
theorem RT.der {T : List Int} {a : Nat} {has r : Int} (h : RT T a has) (ha : a < 7) (h1 : 1 ≤ has) (h3 : has ≤ 3) :
    (¬ (1 ≤ r ∧ r ≤ 3) → derE 1 T 0 a 0 ((a : Int) + 1) r = 2 ∧ derL 1 T 0 a 0 ((a : Int) + 1) r = T) ∧
    (1 ≤ r → r ≤ 3 → ¬ (r = has ∨ has = 3) → derE 1 T 0 a 0 ((a : Int) + 1) r = 5 ∧ derL 1 T 0 a 0 ((a : Int) + 1) r = T) ∧
    (1 ≤ r → r ≤ 3 → (r = has ∨ has = 3) → derE 1 T 0 a 0 ((a : Int) + 1) r = 0 ∧ RT (derL 1 T 0 a 0 ((a : Int) + 1) r) (a + 1) r) := by
  have p1 : plOk 1 0 a = true := by simp [plOk]; omega
  have p2 : plOk 1 0 ((a : Int) + 1) = true := by simp [plOk]; omega
  have hf := h.free (a + 1) (by omega) (by omega)
  push_cast at hf
  have hr := h.rights
  have hE : derE 1 T 0 a 0 ((a : Int) + 1) r = if !rightsB r then 2 else if !withinB r has then 5 else 0 := by
    unfold derE
    rw [p1, p2, hr, hf]
    have : ¬ has = 0 := by omega
    simp [this]
  refine ⟨fun c => ?_, fun c1 c2 c3 => ?_, fun c1 c2 c3 => ?_⟩
  · have : rightsB r = false := by
      cases e : rightsB r with
      | false => rfl
      | true => simp [rightsB] at e; exact absurd e c
    rw [this] at hE
    have e2 : derE 1 T 0 a 0 ((a : Int) + 1) r = 2 := by rw [hE]; rfl
    exact ⟨e2, by unfold derL; rw [e2]; rfl⟩
  · have q1 : rightsB r = true := by simp [rightsB]; omega
    have q2 : withinB r has = false := by
      cases e : withinB r has with
      | false => rfl
      | true => simp [withinB] at e; exact absurd e.2 c3
    rw [q1, q2] at hE
    have e2 : derE 1 T 0 a 0 ((a : Int) + 1) r = 5 := by rw [hE]; rfl
    exact ⟨e2, by unfold derL; rw [e2]; rfl⟩
  · have q1 : rightsB r = true := by simp [rightsB]; omega
    have q0 : rightsB has = true := by simp [rightsB]; omega
    have q2 : withinB r has = true := by simp [withinB, q1, q0]; exact c3
    rw [q1, q2] at hE
    have e2 : derE 1 T 0 a 0 ((a : Int) + 1) r = 0 := by rw [hE]; rfl
    refine ⟨e2, ?_⟩
    have eL : derL 1 T 0 a 0 ((a : Int) + 1) r = cSet T 0 ((a : Int) + 1) 1 r 0 a := by unfold derL; rw [if_pos e2, h.frame]
    have hl : (T.length : Int) = 1 * 32 := by rw [h.len]; rfl
    have g := fun (s' : Int) (k : Nat) (a1 : 0 ≤ s') (a2 : s' < 8) (a3 : k < 4) => cG_set (f := 1) (r := r) (pe := 0) (ps := (a : Int)) (e := 0) (s := (a : Int) + 1) (e' := 0) (s' := s') (k := k) hl (by omega) (by omega) (by omega) (by omega) (by omega) a1 a2 a3
    rw [eL]
    refine ⟨by rw [cSet_len]; exact h.len, ?_, ?_, fun s hs8 hs => ?_⟩
    · have := g ((a : Int) + 1) 1 (by omega) (by omega) (by omega)
      rw [if_pos ⟨rfl, rfl⟩] at this
      push_cast; exact this
    · have := g ((a : Int) + 1) 0 (by omega) (by omega) (by omega)
      rw [if_pos ⟨rfl, rfl⟩] at this
      push_cast; exact this
    · have := g s 1 (by omega) (by omega) (by omega)
      rw [if_neg (by omega)] at this
      rw [show cG (cSet T 0 ((a : Int) + 1) 1 r 0 a) 0 s 1 = cG T 0 s 1 from this]
      exact h.free s hs8 (by omega)
theorem RT.at {T : List Int} {a : Nat} {has : Int} (h : RT T a has) (ha : a < 8) (h1 : 1 ≤ has) : capOk 1 T 0 a = true ∧ capV 1 T 0 a 1 = has ∧ capV 1 T 0 a 0 = 1 := by
  have : capOk 1 T 0 a = true := by
    unfold capOk
    rw [h.rights]
    simp [plOk]; omega
  exact ⟨this, by unfold capV; rw [if_pos this, h.rights], by unfold capV; rw [if_pos this, h.frame]⟩
end Go.Sx
/- CapsAll: the document's slots (515 numbers: three, five to a slot, three to an entry, the words) and the tree of capabilities. -/
set_option linter.unusedVariables false
namespace Go.Sx
def kG (W : List Int) (e s k : Int) : Int := W.getD (3 + e * 40 + s * 5 + k).toNat 0
/-- The document's slots are the tree's; no entries. -/
structure KT (T W : List Int) : Prop where
  len : W.length = 515
  is : ∀ e s : Nat, e < 4 → s < 8 → kG W e s 0 = b2i (decide (cG T e s 1 ≠ 0))
  v : ∀ e s k : Nat, e < 4 → s < 8 → k < 4 → kG W e s ((k + 1 : Nat) : Int) = cG T e s k
  ptes : ∀ j : Nat, 163 ≤ j → j < 259 → W.getD j 0 = 0
  rt : ∀ e s : Nat, e < 4 → s < 8 → cG T e s 1 ≤ 3
def KV (W : List Int) : Prop := ∃ n T, n ≤ 4 ∧ CV n T ∧ KT T W
/-- Does what is at (a, b) come from (e, s), in 32 steps at most? -/
def qB (T : List Int) (e s a b : Int) : Bool := undC T e s 32 (cG T a b 1) (cG T a b 2) (cG T a b 3)
def qGone (T : List Int) (e s it a b : Int) : Bool := (decide (it ≠ 0) && decide (a = e ∧ b = s)) || qB T e s a b
end Go.Sx
/- CapsAll: laws of the document's slots. -/
set_option linter.unusedVariables false
namespace Go.Sx
theorem KT.rd {T W : List Int} (h : KT T W) {a b i : Int} (a0 : 0 ≤ a) (a4 : a < 4) (b0 : 0 ≤ b) (b8 : b < 8) (hi : i = 3 + a * 40 + b * 5) :
    W.getD i.toNat 0 = b2i (decide (cG T a b 1 ≠ 0)) ∧ W.getD (i + 1).toNat 0 = cG T a b 0 ∧ W.getD (i + 2).toNat 0 = cG T a b 1 ∧ W.getD (i + 3).toNat 0 = cG T a b 2 ∧ W.getD (i + 4).toNat 0 = cG T a b 3 := by
  obtain ⟨e, rfl⟩ : ∃ m : Nat, a = m := ⟨a.toNat, by omega⟩
  obtain ⟨s, rfl⟩ : ∃ m : Nat, b = m := ⟨b.toNat, by omega⟩
  have h0 := h.is e s (by omega) (by omega)
  have hv := fun k hk => h.v e s k (by omega) (by omega) hk
  subst hi
  refine ⟨?_, ?_, ?_, ?_, ?_⟩
  · rw [← h0]; unfold kG; congr 1
  · rw [← show cG T e s ((0 : Nat) : Int) = cG T e s 0 from rfl, ← hv 0 (by omega)]; unfold kG; congr 1
  · rw [← show cG T e s ((1 : Nat) : Int) = cG T e s 1 from rfl, ← hv 1 (by omega)]; unfold kG; congr 1
  · rw [← show cG T e s ((2 : Nat) : Int) = cG T e s 2 from rfl, ← hv 2 (by omega)]; unfold kG; congr 1
  · rw [← show cG T e s ((3 : Nat) : Int) = cG T e s 3 from rfl, ← hv 3 (by omega)]; unfold kG; congr 1
theorem CV.inn {n : Int} {T : List Int} (h : CV n T) {a b k : Int} (a0 : 0 ≤ a) (b0 : 0 ≤ b) (k0 : 0 ≤ k) (hne : cG T a b k ≠ 0) : a < n := by
  by_cases h1 : a < n
  · exact h1
  · have hl := h.len
    exfalso
    apply hne
    unfold cG
    rw [List.getD_eq_getElem?_getD, List.getElem?_eq_none (by omega)]
    rfl
def set5 (W : List Int) (i a b c d e : Int) : List Int := ((((W.set i.toNat a).set (i + 1).toNat b).set (i + 2).toNat c).set (i + 3).toNat d).set (i + 4).toNat e
theorem set5_len {W : List Int} {i a b c d e : Int} : (set5 W i a b c d e).length = W.length := by simp [set5]
theorem set5_at {W : List Int} (hW : W.length = 515) {m : Nat} {i a b c d e : Int} (hi : i = m) (hm : m + 4 < 515) (q : Nat) :
    (set5 W i a b c d e).getD q 0 = if q = m then a else if q = m + 1 then b else if q = m + 2 then c else if q = m + 3 then d else if q = m + 4 then e else W.getD q 0 := by
  subst hi
  unfold set5
  rw [show ((m : Int)).toNat = m by omega, show ((m : Int) + 1).toNat = m + 1 by omega, show ((m : Int) + 2).toNat = m + 2 by omega, show ((m : Int) + 3).toNat = m + 3 by omega, show ((m : Int) + 4).toNat = m + 4 by omega]
  rw [getD_setC (by simp; omega), getD_setC (by simp; omega), getD_setC (by simp; omega), getD_setC (by simp; omega), getD_setC (by omega)]
  by_cases h0 : q = m
  · subst h0; simp
  · by_cases h1 : q = m + 1
    · subst h1; simp
    · by_cases h2 : q = m + 2
      · subst h2; simp
      · by_cases h3 : q = m + 3
        · subst h3; simp
        · by_cases h4 : q = m + 4
          · subst h4; simp
          · simp [h0, h1, h2, h3, h4]
/-- A slot is filled, or emptied, in both. -/
theorem KT.set {T W : List Int} {n : Int} (h : KT T W) (hT : (T.length : Int) = n * 32) (n4 : n ≤ 4) {e s i f r pe ps x : Int} (e0 : 0 ≤ e) (en : e < n) (s0 : 0 ≤ s) (s8 : s < 8) (hi : i = 3 + e * 40 + s * 5) (hx : x = b2i (decide (r ≠ 0))) (hr : r ≤ 3) :
    KT (cSet T e s f r pe ps) (set5 W i x f r pe ps) := by
  obtain ⟨e, rfl⟩ : ∃ m : Nat, e = m := ⟨e.toNat, by omega⟩
  obtain ⟨s, rfl⟩ : ∃ m : Nat, s = m := ⟨s.toNat, by omega⟩
  have g := fun (e' s' k : Nat) (h8 : s' < 8) (hk : k < 4) => cG_set (f := f) (r := r) (pe := pe) (ps := ps) (e := (e : Int)) (s := (s : Int)) (e' := (e' : Int)) (s' := (s' : Int)) (k := k) hT e0 en s0 s8 (by omega) (by omega) (by omega) hk
  have w := fun q => set5_at h.len (m := 3 + e * 40 + s * 5) (i := i) (a := x) (b := f) (c := r) (d := pe) (e := ps) (by omega) (by omega) q
  refine ⟨by rw [set5_len]; exact h.len, fun e' s' h4 h8 => ?_, fun e' s' k h4 h8 hk => ?_, fun j j1 j2 => ?_, fun e' s' h4 h8 => ?_⟩
  · have g1 := g e' s' 1 h8 (by omega)
    have h1 := h.is e' s' h4 h8
    rw [show ((1 : Nat) : Int) = 1 from rfl] at g1
    rw [g1]
    unfold kG at h1 ⊢
    rw [show ((3 : Int) + e' * 40 + s' * 5 + 0).toNat = 3 + e' * 40 + s' * 5 by omega] at h1 ⊢
    rw [w]
    by_cases hes : (e' : Int) = e ∧ (s' : Int) = s
    · rw [if_pos hes, if_pos (by omega)]; exact hx
    · rw [if_neg hes, if_neg (by omega), if_neg (by omega), if_neg (by omega), if_neg (by omega), if_neg (by omega)]; exact h1
  · have g1 := g e' s' k h8 hk
    have h1 := h.v e' s' k h4 h8 hk
    rw [g1]
    unfold kG at h1 ⊢
    rw [show ((3 : Int) + e' * 40 + s' * 5 + ((k + 1 : Nat) : Int)).toNat = 3 + e' * 40 + s' * 5 + (k + 1) by omega] at h1 ⊢
    rw [w]
    by_cases hes : (e' : Int) = e ∧ (s' : Int) = s
    · rw [if_pos hes]
      have he : e' = e := by omega
      have hs : s' = s := by omega
      subst he
      subst hs
      have : k = 0 ∨ k = 1 ∨ k = 2 ∨ k = 3 := by omega
      rcases this with rfl | rfl | rfl | rfl
      · rw [if_neg (by omega), if_pos (by omega)]; rfl
      · rw [if_neg (by omega), if_neg (by omega), if_pos (by omega)]; rfl
      · rw [if_neg (by omega), if_neg (by omega), if_neg (by omega), if_pos (by omega)]; rfl
      · rw [if_neg (by omega), if_neg (by omega), if_neg (by omega), if_neg (by omega), if_pos (by omega)]; rfl
    · rw [if_neg hes, if_neg (by omega), if_neg (by omega), if_neg (by omega), if_neg (by omega), if_neg (by omega)]; exact h1
  · rw [w, if_neg (by omega), if_neg (by omega), if_neg (by omega), if_neg (by omega), if_neg (by omega)]; exact h.ptes j j1 j2
  · have g1 := g e' s' 1 h8 (by omega)
    rw [show ((1 : Nat) : Int) = 1 from rfl] at g1
    rw [g1]
    split
    · exact hr
    · exact h.rt e' s' h4 h8
/-- Is a place among those of a list? -/
def inL : List Int → Int → Int → Bool
  | x :: y :: r, a, b => (decide (a = x) && decide (b = y)) || inL r a b
  | _, _, _ => false
theorem inL_app : ∀ {X : List Int} (Y : List Int) (a b : Int), X.length % 2 = 0 → inL (X ++ Y) a b = (inL X a b || inL Y a b)
  | [], Y, a, b, _ => by simp [inL]
  | [x], Y, a, b, h => by simp at h
  | x :: y :: r, Y, a, b, h => by
    have ih := inL_app (X := r) Y a b (by simp at h; omega)
    simp only [List.cons_append, inL]
    rw [ih, Bool.or_assoc]
theorem take_two {B : List Int} {k : Nat} (h : 2 * k + 1 < B.length) : B.take (2 * (k + 1)) = B.take (2 * k) ++ [B.getD (2 * k) 0, B.getD (2 * k + 1) 0] := by
  rw [show 2 * (k + 1) = 2 * k + 1 + 1 by omega, List.take_succ_eq_append_getElem (by omega), List.take_succ_eq_append_getElem (by omega), List.append_assoc]
  simp [List.getD_eq_getElem?_getD, List.getElem?_eq_getElem h, List.getElem?_eq_getElem (show 2 * k < B.length by omega)]
theorem inL_step {B : List Int} {k : Nat} (h : 2 * k + 1 < B.length) (a b : Int) : inL (B.take (2 * (k + 1))) a b = (inL (B.take (2 * k)) a b || (decide (a = B.getD (2 * k) 0) && decide (b = B.getD (2 * k + 1) 0))) := by
  rw [take_two h, inL_app _ _ _ (by rw [List.length_take]; omega)]
  simp [inL]
theorem inL_row (q : Int → Int → Bool) (e : Int) (a b : Int) : ∀ k : Nat, inL (rowC q e k) a b = (decide (a = e) && (decide (0 ≤ b) && decide (b < k) && q a b))
  | 0 => by simp [rowC, inL]; intro _ h1 h2; omega
  | k + 1 => by
    have ih := inL_row q e a b k
    rw [rowC_succ]
    by_cases hb : b = k
    · subst hb
      have e1 : decide ((k : Int) < k) = false := by simp
      have e2 : decide ((0 : Int) ≤ (k : Int)) = true := by simp
      have e3 : decide ((k : Int) < ((k + 1 : Nat) : Int)) = true := by simp; omega
      rw [e1, e2] at ih
      rw [e2, e3]
      by_cases ha : a = e
      · subst ha
        cases hq : q a k
        · rw [if_neg (by simp)]; rw [ih]; simp
        · rw [if_pos rfl, inL_app _ _ _ (rowC_len q a k).2, ih]; simp [inL]
      · have e4 : decide (a = e) = false := by simp [ha]
        split
        · rw [inL_app _ _ _ (rowC_len q e k).2, ih]; simp [inL, e4]
        · rw [ih]; simp [e4]
    · have e3 : decide (b < ((k + 1 : Nat) : Int)) = decide (b < (k : Int)) := by
        apply decide_eq_decide.2; omega
      rw [e3, ← ih]
      split
      · rw [inL_app _ _ _ (rowC_len q e k).2]; simp [inL, hb]
      · rfl
theorem inL_sel (q : Int → Int → Bool) (a b : Int) : ∀ m : Nat, inL (selC q m) a b = (decide (0 ≤ a) && decide (a < m) && (decide (0 ≤ b) && decide (b < 8) && q a b))
  | 0 => by
    simp [selC, inL]; intro h1 h2; omega
  | m + 1 => by
    rw [selC_succ, inL_app _ _ _ (selC_len q m).2, inL_sel q a b m, inL_row]
    by_cases ha : a = m
    · subst ha
      simp
      intros; omega
    · have e3 : decide (a < ((m + 1 : Nat) : Int)) = decide (a < (m : Int)) := by
        apply decide_eq_decide.2; omega
      rw [e3]
      simp [ha]
theorem rowC_pls {q : Int → Int → Bool} {n e : Int} (h0 : 0 ≤ e) : ∀ k : Nat, k ≤ 8 → (∀ b : Nat, b < k → q e b = true → e < n) → PlsOk n (rowC q e k)
  | 0, _, _ => PlsOk.nil n
  | k + 1, hk, h => by
    rw [rowC_succ]
    have ih := rowC_pls h0 k (by omega) fun b hb => h b (by omega)
    split
    · rename_i hq
      exact ih.app (PlsOk.two h0 (h k (by omega) hq) (by omega) (by omega))
    · exact ih
theorem selC_pls {q : Int → Int → Bool} {n : Int} : ∀ m : Nat, (∀ a b : Nat, a < m → b < 8 → q a b = true → (a : Int) < n) → PlsOk n (selC q m)
  | 0, _ => PlsOk.nil n
  | m + 1, h => by
    rw [selC_succ]
    exact (selC_pls m fun a b ha hb => h a b (by omega) hb).app (rowC_pls (by omega) 8 (Nat.le_refl 8) fun b hb => h m b (by omega) hb)
theorem qB_lt {n : Int} {T : List Int} (h : CV n T) {e s a b : Int} (a0 : 0 ≤ a) (b0 : 0 ≤ b) (hq : qB T e s a b = true) : a < n := by
  unfold qB at hq
  rw [show (32 : Nat) = 31 + 1 from rfl, undC_succ] at hq
  refine h.inn a0 b0 (k := 1) (by omega) fun hz => ?_
  rw [if_pos (.inl hz)] at hq
  cases hq
theorem qGone_lt {n : Int} {T : List Int} (h : CV n T) {e s it a b : Int} (en : e < n) (a0 : 0 ≤ a) (b0 : 0 ≤ b) (hq : qGone T e s it a b = true) : a < n := by
  unfold qGone at hq
  simp only [Bool.or_eq_true, Bool.and_eq_true, decide_eq_true_eq] at hq
  rcases hq with ⟨_, rfl, _⟩ | hq
  · exact en
  · exact qB_lt h a0 b0 hq
theorem qGone_pls {n : Int} {T : List Int} (h : CV n T) {e s it : Int} (en : e < n) : PlsOk n (selC (qGone T e s it) 4) :=
  selC_pls 4 fun a b _ _ hq => qGone_lt h en (by omega) (by omega) hq
theorem rowC_none {q : Int → Int → Bool} {e : Int} : ∀ k : Nat, (∀ b : Nat, b < k → q e b = false) → rowC q e k = []
  | 0, _ => rfl
  | k + 1, h => by
    rw [rowC_succ, h k (by omega), rowC_none k fun b hb => h b (by omega)]
    rfl
/-- What holds only within n environments is chosen there. -/
theorem selC_cut {q : Int → Int → Bool} {n : Nat} : ∀ m : Nat, n ≤ m → (∀ a b : Int, 0 ≤ a → 0 ≤ b → q a b = true → a < n) → selC q m = selC q n
  | 0, h, _ => by have : n = 0 := by omega
                  subst this; rfl
  | m + 1, h, hq => by
    by_cases hn : n = m + 1
    · subst hn; rfl
    · rw [selC_succ, selC_cut m (by omega) hq, rowC_none 8 fun b _ => ?_, List.append_nil]
      cases hv : q m b with
      | false => rfl
      | true => have := hq m b (by omega) (by omega) hv; omega
theorem selC_four {n : Int} {T : List Int} (h : CV n T) (n4 : n ≤ 4) {q : Int → Int → Bool} (hq : ∀ a b : Int, 0 ≤ a → 0 ≤ b → q a b = true → a < n) : selC q 4 = selC q n.toNat :=
  selC_cut 4 (by omega) fun a b a0 b0 ha => by have := hq a b a0 b0 ha; omega
end Go.Sx
/- CapsAll: the tree of capabilities stays in order, and the document's says the same. -/
set_option linter.unusedVariables false
namespace Go.Sx
/-! ### Chains end -/
theorem endC_mono {L : List Int} : ∀ {a b : Nat} {r pe ps : Int}, endC L a r pe ps = true → a ≤ b → endC L b r pe ps = true
  | 0, _, _, _, _, h, _ => by cases h
  | a + 1, 0, _, _, _, _, hb => absurd hb (by omega)
  | a + 1, b + 1, r, pe, ps, h, hb => by
    rw [endC_succ] at h ⊢
    split
    · rfl
    · rename_i hc
      rw [if_neg hc] at h
      exact endC_mono h (by omega)
theorem undC_eq {L : List Int} {e s : Int} : ∀ {n a b : Nat} {r pe ps : Int}, endC L n r pe ps = true → n ≤ a → n ≤ b → undC L e s a r pe ps = undC L e s b r pe ps
  | 0, _, _, _, _, _, h, _, _ => by cases h
  | n + 1, 0, _, _, _, _, h, ha, _ => absurd ha (by omega)
  | n + 1, a + 1, 0, _, _, _, h, _, hb => absurd hb (by omega)
  | n + 1, a + 1, b + 1, r, pe, ps, h, ha, hb => by
    rw [undC_succ, undC_succ]
    rw [endC_succ] at h
    split
    · rfl
    · rename_i hc
      rw [if_neg hc] at h
      split
      · rfl
      · exact undC_eq (a := a) (b := b) h (by omega) (by omega)
/-! ### The order in which capabilities came -/
def oG (T : List Int) (x : Nat) (k : Int) : Int := cG T ((x / 8 : Nat) : Int) ((x % 8 : Nat) : Int) k
theorem oG_place (T : List Int) {p q : Int} (p0 : 0 ≤ p) (q0 : 0 ≤ q) (q8 : q < 8) (k : Int) : oG T (p * 8 + q).toNat k = cG T p q k := by
  unfold oG
  rw [show (((p * 8 + q).toNat / 8 : Nat) : Int) = p by omega, show (((p * 8 + q).toNat % 8 : Nat) : Int) = q by omega]
def parOk (T : List Int) (l : List Nat) (x : Nat) : Prop := oG T x 2 < 0 ∨ (0 ≤ oG T x 2 ∧ oG T x 2 < 4 ∧ 0 ≤ oG T x 3 ∧ oG T x 3 < 8 ∧ (oG T x 2 * 8 + oG T x 3).toNat ∈ l)
def TopO (T : List Int) : List Nat → Prop
  | [] => True
  | x :: l => x ∉ l ∧ x < 32 ∧ oG T x 1 ≠ 0 ∧ parOk T l x ∧ TopO T l
theorem parOk.mono {T : List Int} {l l' : List Nat} {x : Nat} (h : parOk T l x) (hs : ∀ y ∈ l, y ∈ l') : parOk T l' x := by
  rcases h with h | ⟨a, b, c, d, e⟩
  · exact .inl h
  · exact .inr ⟨a, b, c, d, hs _ e⟩
theorem TopO.mem {T : List Int} : ∀ {l : List Nat}, TopO T l → ∀ x ∈ l, x < 32 ∧ oG T x 1 ≠ 0 ∧ parOk T l x
  | [], _, x, h => by cases h
  | y :: l, ⟨h1, h2, h3, h4, h5⟩, x, h => by
    rcases List.mem_cons.1 h with rfl | h
    · exact ⟨h2, h3, h4.mono fun z hz => List.mem_cons_of_mem _ hz⟩
    · obtain ⟨a, b, c⟩ := TopO.mem h5 x h
      exact ⟨a, b, c.mono fun z hz => List.mem_cons_of_mem _ hz⟩
theorem TopO.nodup {T : List Int} : ∀ {l : List Nat}, TopO T l → l.Nodup
  | [], _ => List.nodup_nil
  | y :: l, ⟨h1, _, _, _, h5⟩ => List.nodup_cons.2 ⟨h1, TopO.nodup h5⟩
theorem nodup_le : ∀ {n : Nat} {l : List Nat}, l.Nodup → (∀ x ∈ l, x < n) → l.length ≤ n
  | 0, [], _, _ => Nat.le_refl 0
  | 0, x :: l, _, h => absurd (h x (List.mem_cons_self ..)) (Nat.not_lt_zero _)
  | n + 1, l, hd, h => by
    by_cases hn : n ∈ l
    · have h1 : (l.erase n).Nodup := hd.erase n
      have h2 := nodup_le (n := n) h1 fun x hx => by
        have h3 := h x (List.mem_of_mem_erase hx)
        have h4 : x ≠ n := fun e => by subst e; exact (List.Nodup.not_mem_erase hd) hx
        omega
      rw [List.length_erase_of_mem hn] at h2
      omega
    · have h2 := nodup_le (n := n) hd fun x hx => by
        have h3 := h x hx
        have h4 : x ≠ n := fun e => hn (by rw [← e]; exact hx)
        omega
      omega
theorem TopO.ends {T : List Int} : ∀ {l : List Nat}, TopO T l → ∀ x ∈ l, endC T l.length (oG T x 1) (oG T x 2) (oG T x 3) = true
  | [], _, x, h => by cases h
  | y :: l, ⟨h1, h2, h3, h4, h5⟩, x, h => by
    rcases List.mem_cons.1 h with rfl | h
    · rw [List.length_cons, endC_succ]
      rcases h4 with h4 | ⟨a, b, c, d, e⟩
      · rw [if_pos (.inr h4)]
      · rw [if_neg (by omega)]
        have := TopO.ends h5 _ e
        rw [oG_place T a c d, oG_place T a c d, oG_place T a c d] at this
        exact this
    · exact endC_mono (TopO.ends h5 x h) (by simp)
theorem TopO.congr {T T' : List Int} : ∀ {l : List Nat}, TopO T l → (∀ x ∈ l, ∀ k : Nat, k < 4 → oG T' x k = oG T x k) → TopO T' l
  | [], _, _ => trivial
  | y :: l, ⟨h1, h2, h3, h4, h5⟩, hc => by
    have c := hc y (List.mem_cons_self ..)
    have c1 := c 1 (by omega)
    have c2 := c 2 (by omega)
    have c3 := c 3 (by omega)
    refine ⟨h1, h2, by rw [show oG T' y 1 = oG T y 1 from c1]; exact h3, ?_, TopO.congr h5 fun x hx => hc x (List.mem_cons_of_mem _ hx)⟩
    unfold parOk
    rw [show oG T' y 2 = oG T y 2 from c2, show oG T' y 3 = oG T y 3 from c3]
    exact h4
theorem TopO.filter {T : List Int} {p : Nat → Bool} : ∀ {l : List Nat}, TopO T l → (∀ x ∈ l, p x = true → 0 ≤ oG T x 2 → p (oG T x 2 * 8 + oG T x 3).toNat = true) → TopO T (l.filter p)
  | [], _, _ => trivial
  | y :: l, ⟨h1, h2, h3, h4, h5⟩, hp => by
    have ih := TopO.filter h5 fun x hx => hp x (List.mem_cons_of_mem _ hx)
    rw [List.filter_cons]
    split
    · rename_i hy
      refine ⟨fun h => h1 (List.mem_filter.1 h).1, h2, h3, ?_, ih⟩
      rcases h4 with h4 | ⟨a, b, c, d, e⟩
      · exact .inl h4
      · exact .inr ⟨a, b, c, d, List.mem_filter.2 ⟨e, hp y (List.mem_cons_self ..) hy a⟩⟩
    · exact ih
/-- A tree in order, and the document's that is the same. -/
structure TI (n : Int) (T W : List Int) : Prop where
  n1 : 1 ≤ n
  n4 : n ≤ 4
  len : (T.length : Int) = n * 32
  kt : KT T W
  ord : ∃ l, TopO T l ∧ ∀ e s : Nat, (e : Int) < n → s < 8 → cG T e s 1 ≠ 0 → e * 8 + s ∈ l
theorem oG_at (T : List Int) {e s : Nat} (hs : s < 8) (k : Int) : oG T (e * 8 + s) k = cG T e s k := by
  unfold oG
  rw [show (e * 8 + s) / 8 = e by omega, show (e * 8 + s) % 8 = s by omega]
theorem cG_in {n : Int} {T : List Int} (hl : (T.length : Int) = n * 32) {a b k : Int} (a0 : 0 ≤ a) (b0 : 0 ≤ b) (k0 : 0 ≤ k) (hne : cG T a b k ≠ 0) : a < n := by
  by_cases h1 : a < n
  · exact h1
  · exfalso
    apply hne
    unfold cG
    rw [List.getD_eq_getElem?_getD, List.getElem?_eq_none (by omega)]
    rfl
/-- A capability's parent, and its chain. -/
theorem TI.slot {n : Int} {T W : List Int} (h : TI n T W) {e s : Int} (e0 : 0 ≤ e) (s0 : 0 ≤ s) (s8 : s < 8) (hr : cG T e s 1 ≠ 0) :
    (0 ≤ cG T e s 2 → cG T e s 2 < n ∧ 0 ≤ cG T e s 3 ∧ cG T e s 3 < 8 ∧ cG T (cG T e s 2) (cG T e s 3) 1 ≠ 0) ∧ endC T 32 (cG T e s 1) (cG T e s 2) (cG T e s 3) = true := by
  obtain ⟨l, hl, hm⟩ := h.ord
  have en := cG_in h.len e0 s0 (by omega) hr
  obtain ⟨e, rfl⟩ : ∃ m : Nat, e = m := ⟨e.toNat, by omega⟩
  obtain ⟨s, rfl⟩ : ∃ m : Nat, s = m := ⟨s.toNat, by omega⟩
  have hx := hm e s en (by omega) hr
  obtain ⟨a1, a2, a3⟩ := hl.mem _ hx
  have hs : s < 8 := by omega
  have hend := hl.ends _ hx
  have hlen := nodup_le hl.nodup fun x hx => (hl.mem x hx).1
  unfold parOk at a3
  rw [oG_at T hs, oG_at T hs] at a3
  rw [oG_at T hs, oG_at T hs, oG_at T hs] at hend
  refine ⟨fun hp => ?_, endC_mono hend hlen⟩
  obtain ⟨b1, b2, b3, b4, b5⟩ := a3.resolve_left (by omega)
  have hq := (hl.mem _ b5).2.1
  rw [oG_place T b1 b3 b4] at hq
  exact ⟨cG_in h.len b1 b3 (by omega) hq, b3, b4, hq⟩
theorem TI.cv {n : Int} {T W : List Int} (h : TI n T W) : CV n T := by
  refine ⟨h.len, fun e s e0 en s0 s8 hr hp => ?_, fun e s e0 en s0 s8 => ?_⟩
  · obtain ⟨a, b, c, _⟩ := (h.slot e0 s0 s8 hr).1 hp
    exact ⟨a, b, c⟩
  · by_cases hr : cG T e s 1 = 0
    · rw [endC_succ, if_pos (.inl hr)]
    · exact endC_mono (h.slot e0 s0 s8 hr).2 (by omega)
/-- What comes from a place: the place is one, and there is a capability. -/
theorem TI.from {n : Int} {T W : List Int} (h : TI n T W) {e s : Int} : ∀ (k : Nat) {a b : Int}, 0 ≤ a → 0 ≤ b → b < 8 → undC T e s k (cG T a b 1) (cG T a b 2) (cG T a b 3) = true → 0 ≤ e ∧ e < n ∧ 0 ≤ s ∧ s < 8 ∧ cG T e s 1 ≠ 0
  | 0, _, _, _, _, _, hu => by cases hu
  | k + 1, a, b, a0, b0, b8, hu => by
    rw [undC_succ] at hu
    split at hu
    · cases hu
    · rename_i hc
      have hr : cG T a b 1 ≠ 0 := fun c => hc (.inl c)
      obtain ⟨p1, p2, p3, p4⟩ := (h.slot a0 b0 b8 hr).1 (by omega)
      split at hu
      · rename_i hq
        obtain ⟨rfl, rfl⟩ := hq
        exact ⟨by omega, p1, p2, p3, p4⟩
      · exact TI.from h k (by omega) p2 p3 hu
theorem TI.fuel {n : Int} {T W : List Int} (h : TI n T W) {e s a b : Int} (a0 : 0 ≤ a) (b0 : 0 ≤ b) (b8 : b < 8) : undC T e s 33 (cG T a b 1) (cG T a b 2) (cG T a b 3) = qB T e s a b := by
  unfold qB
  by_cases hr : cG T a b 1 = 0
  · have z : ∀ m : Nat, undC T e s (m + 1) (cG T a b 1) (cG T a b 2) (cG T a b 3) = false := fun m => by rw [undC_succ, if_pos (Or.inl hr)]
    exact (z 32).trans (z 31).symm
  · exact undC_eq (h.slot a0 b0 b8 hr).2 (by omega) (by omega)
theorem rowC_congr {q q' : Int → Int → Bool} {e : Int} : ∀ k : Nat, (∀ b : Nat, b < k → q e b = q' e b) → rowC q e k = rowC q' e k
  | 0, _ => rfl
  | k + 1, h => by rw [rowC_succ, rowC_succ, h k (by omega), rowC_congr k fun b hb => h b (by omega)]
theorem selC_congr {q q' : Int → Int → Bool} : ∀ m : Nat, (∀ a b : Nat, a < m → b < 8 → q a b = q' a b) → selC q m = selC q' m
  | 0, _ => rfl
  | m + 1, h => by rw [selC_succ, selC_succ, selC_congr m fun a b ha hb => h a b (by omega) hb, rowC_congr 8 fun b hb => h m b (by omega) hb]
theorem qB_rights {T : List Int} {e s a b : Int} (h : qB T e s a b = true) : cG T a b 1 ≠ 0 := by
  intro c
  unfold qB at h
  rw [undC_succ, if_pos (.inl c)] at h
  cases h
/-- The same places go. -/
theorem TI.below {n : Int} {T W : List Int} (h : TI n T W) (e s : Int) : belowL n T e s = selC (qB T e s) 4 := by
  have hcv := h.cv
  rw [selC_four hcv h.n4 (fun a b a0 b0 hq => qB_lt hcv a0 b0 hq)]
  unfold belowL
  refine selC_congr _ fun a b _ hb => ?_
  unfold qBelow
  rw [h.fuel (by omega) (by omega) (by omega)]
  cases hq : qB T e s a b with
  | false => simp
  | true => simp [qB_rights hq]
theorem TI.gone0 {n : Int} {T W : List Int} (h : TI n T W) (e s : Int) : belowL n T e s = selC (qGone T e s 0) 4 := by
  rw [h.below]
  exact selC_congr 4 fun a b _ _ => by simp [qGone]
theorem TI.gone1 {n : Int} {T W : List Int} (h : TI n T W) {e s : Int} (en : e < n) (he : cG T e s 1 ≠ 0) : dropL n T e s = selC (qGone T e s 1) 4 := by
  have hcv := h.cv
  rw [selC_four hcv h.n4 (fun a b a0 b0 hq => qGone_lt hcv en a0 b0 hq)]
  unfold dropL
  refine selC_congr _ fun a b _ hb => ?_
  unfold qDrop qGone
  rw [h.fuel (by omega) (by omega) (by omega)]
  by_cases hab : (a : Int) = e ∧ (b : Int) = s
  · obtain ⟨rfl, rfl⟩ := hab
    simp [he]
  · cases hq : qB T e s a b with
    | false => simp [hab]
    | true => simp [qB_rights hq]
theorem rowC_false {q : Int → Int → Bool} {e : Int} (k : Nat) (h : ∀ b : Nat, b < k → q e b = false) : rowC q e k = [] := rowC_none k h
theorem selC_none {q : Int → Int → Bool} : ∀ m : Nat, (∀ a b : Nat, a < m → b < 8 → q a b = false) → selC q m = []
  | 0, _ => rfl
  | m + 1, h => by rw [selC_succ, selC_none m fun a b ha hb => h a b (by omega) hb, rowC_none 8 fun b hb => h m b (by omega) hb]; rfl
/-- Nothing comes from where no capability is. -/
theorem TI.belowNone {n : Int} {T W : List Int} (h : TI n T W) {e s : Int} (hno : plOk n e s = false ∨ cG T e s 1 = 0) : belowL n T e s = [] := by
  rw [h.below]
  refine selC_none 4 fun a b _ hb => ?_
  cases hq : qB T e s a b with
  | false => rfl
  | true =>
    obtain ⟨a1, a2, a3, a4, a5⟩ := h.from 32 (by omega) (by omega) (by omega) hq
    exfalso
    rcases hno with hno | hno
    · have : plOk n e s = true := by simp [plOk]; omega
      rw [this] at hno; cases hno
    · exact a5 hno
/-! ### What is done keeps the order -/
theorem TI.put {n : Int} {T W W' : List Int} (h : TI n T W) {e s f r pe ps : Int} (e0 : 0 ≤ e) (en : e < n) (s0 : 0 ≤ s) (s8 : s < 8) (hfree : cG T e s 1 = 0) (hr : r ≠ 0)
    (hp : pe < 0 ∨ (0 ≤ pe ∧ pe < n ∧ 0 ≤ ps ∧ ps < 8 ∧ cG T pe ps 1 ≠ 0)) (hk : KT (cSet T e s f r pe ps) W') : TI n (cSet T e s f r pe ps) W' := by
  obtain ⟨l, hl, hm⟩ := h.ord
  obtain ⟨e, rfl⟩ : ∃ m : Nat, e = m := ⟨e.toNat, by omega⟩
  obtain ⟨s, rfl⟩ : ∃ m : Nat, s = m := ⟨s.toNat, by omega⟩
  have hs : s < 8 := by omega
  have g := fun (e' s' k : Nat) (h8 : s' < 8) (hk : k < 4) => cG_set (f := f) (r := r) (pe := pe) (ps := ps) (e := (e : Int)) (s := (s : Int)) (e' := (e' : Int)) (s' := (s' : Int)) (k := k) h.len e0 en s0 s8 (by omega) (by omega) (by omega) hk
  have hn4 := h.n4
  have hx : e * 8 + s ∉ l := fun hx => by
    have := (hl.mem _ hx).2.1
    rw [oG_at T hs] at this
    exact this hfree
  have hself : ∀ k : Nat, k < 4 → oG (cSet T e s f r pe ps) (e * 8 + s) k = ([f, r, pe, ps] : List Int).getD k 0 := fun k hk => by
    rw [oG_at _ hs, g e s k hs hk, if_pos ⟨rfl, rfl⟩]
  have hother : ∀ x ∈ l, ∀ k : Nat, k < 4 → oG (cSet T e s f r pe ps) x k = oG T x k := fun x hxl k hk => by
    unfold oG
    rw [g (x / 8) (x % 8) k (by omega) hk, if_neg]
    rintro ⟨c1, c2⟩
    have : x = e * 8 + s := by omega
    subst this
    exact hx hxl
  refine ⟨h.n1, h.n4, by rw [cSet_len]; exact h.len, hk, (e * 8 + s) :: l, ⟨hx, by omega, ?_, ?_, hl.congr hother⟩, fun e' s' he' hs' hr' => ?_⟩
  · rw [show oG (cSet T e s f r pe ps) (e * 8 + s) 1 = r from hself 1 (by omega)]; exact hr
  · unfold parOk
    rw [show oG (cSet T e s f r pe ps) (e * 8 + s) 2 = pe from hself 2 (by omega), show oG (cSet T e s f r pe ps) (e * 8 + s) 3 = ps from hself 3 (by omega)]
    rcases hp with hp | ⟨p1, p2, p3, p4, p5⟩
    · exact .inl hp
    · refine .inr ⟨p1, by omega, p3, p4, ?_⟩
      have := hm pe.toNat ps.toNat (by omega) (by omega) (by rw [show ((pe.toNat : Nat) : Int) = pe by omega, show ((ps.toNat : Nat) : Int) = ps by omega]; exact p5)
      rw [show (pe * 8 + ps).toNat = pe.toNat * 8 + ps.toNat by omega]; exact this
  · have g1 := g e' s' 1 hs' (by omega)
    rw [show ((1 : Nat) : Int) = 1 from rfl] at g1
    rw [g1] at hr'
    split at hr'
    · rename_i hc
      have : e' * 8 + s' = e * 8 + s := by omega
      rw [this]; exact List.mem_cons_self ..
    · exact List.mem_cons_of_mem _ (hm e' s' he' hs' hr')
/-- Places emptied. -/
theorem emptyK_at {T G : List Int} {n : Int} (hT : (T.length : Int) = n * 32) (hG : PlsOk n G) {a b : Int} (a0 : 0 ≤ a) (b0 : 0 ≤ b) (b8 : b < 8) {k : Nat} (hk : k < 4) : ∀ j : Nat, 2 * j ≤ G.length → cG (emptyK T G j) a b k = if inL (G.take (2 * j)) a b then 0 else cG T a b k
  | 0, _ => by simp [emptyK, inL]
  | j + 1, hj => by
    have hp := hG.ok j (by omega)
    have ih := emptyK_at hT hG a0 b0 b8 hk j (by omega)
    rw [emptyK, cG_set (n := n) (by rw [emptyK_len]; exact hT) hp.1 hp.2.1 hp.2.2.1 hp.2.2.2 a0 b0 b8 hk, ih, inL_step (by omega)]
    by_cases hc : a = G.getD (2 * j) 0 ∧ b = G.getD (2 * j + 1) 0
    · rw [if_pos hc]
      have h1 : decide (a = G.getD (2 * j) 0) = true := by simpa using hc.1
      have h2 : decide (b = G.getD (2 * j + 1) 0) = true := by simpa using hc.2
      rw [h1, h2]
      have : k = 0 ∨ k = 1 ∨ k = 2 ∨ k = 3 := by omega
      rcases this with rfl | rfl | rfl | rfl <;> simp
    · rw [if_neg hc]
      have h1 : (decide (a = G.getD (2 * j) 0) && decide (b = G.getD (2 * j + 1) 0)) = false := by
        simpa using hc
      rw [h1, Bool.or_false]
theorem emptyC_at {T G : List Int} {n : Int} (hT : (T.length : Int) = n * 32) (hG : PlsOk n G) {a b : Int} (a0 : 0 ≤ a) (b0 : 0 ≤ b) (b8 : b < 8) {k : Nat} (hk : k < 4) : cG (emptyC T G) a b k = if inL G a b then 0 else cG T a b k := by
  have he := hG.even
  unfold emptyC
  rw [emptyK_at hT hG a0 b0 b8 hk _ (by omega), List.take_of_length_le (by omega)]
/-- A place's parent goes: so does the place. -/
theorem TI.child {n : Int} {T W : List Int} (h : TI n T W) {e s it a b : Int} (a0 : 0 ≤ a) (b0 : 0 ≤ b) (b8 : b < 8) (hr : cG T a b 1 ≠ 0) (hp : 0 ≤ cG T a b 2) (hq : qGone T e s it (cG T a b 2) (cG T a b 3) = true) : qGone T e s it a b = true := by
  have hB : qB T e s a b = true := by
    unfold qB
    rw [show (32 : Nat) = 31 + 1 from rfl, undC_succ, if_neg (by omega)]
    by_cases hc : cG T a b 2 = e ∧ cG T a b 3 = s
    · rw [if_pos hc]
    · rw [if_neg hc]
      unfold qGone at hq
      have : decide (cG T a b 2 = e ∧ cG T a b 3 = s) = false := by simpa using hc
      rw [this, Bool.and_false, Bool.false_or] at hq
      obtain ⟨p1, p2, p3, p4⟩ := (h.slot a0 b0 b8 hr).1 hp
      have hend := (h.slot a0 b0 b8 hr).2
      rw [show (32 : Nat) = 31 + 1 from rfl, endC_succ, if_neg (by omega)] at hend
      unfold qB at hq
      rw [← hq]
      exact undC_eq hend (by omega) (by omega)
  unfold qGone
  rw [hB, Bool.or_true]
theorem TI.empty {n : Int} {T W W' : List Int} (h : TI n T W) {e s it : Int} (en : e < n) (hk : KT (emptyC T (selC (qGone T e s it) 4)) W') : TI n (emptyC T (selC (qGone T e s it) 4)) W' := by
  have hcv := h.cv
  have hG := qGone_pls hcv (s := s) (it := it) en
  obtain ⟨l, hl, hm⟩ := h.ord
  have hn4 := h.n4
  have at' : ∀ a b k : Nat, b < 8 → k < 4 → a < 4 → cG (emptyC T (selC (qGone T e s it) 4)) a b k = if qGone T e s it a b then 0 else cG T a b k := fun a b k hb hk' ha => by
    rw [emptyC_at h.len hG (by omega) (by omega) (by omega) hk', inL_sel]
    have a1 : decide ((0 : Int) ≤ a) = true := by simp
    have a2 : decide ((a : Int) < (4 : Nat)) = true := by simp; omega
    have a3 : decide ((0 : Int) ≤ b) = true := by simp
    have a4 : decide ((b : Int) < 8) = true := by simp; omega
    rw [a1, a2, a3, a4]; simp
  have atx : ∀ x k : Nat, x < 32 → k < 4 → qGone T e s it ((x / 8 : Nat) : Int) ((x % 8 : Nat) : Int) = false → oG (emptyC T (selC (qGone T e s it) 4)) x k = oG T x k := fun x k hx hk' hq => by
    unfold oG
    rw [at' (x / 8) (x % 8) k (by omega) hk' (by omega), hq]; rfl
  refine ⟨h.n1, h.n4, by unfold emptyC; rw [emptyK_len]; exact h.len, hk, l.filter (fun x => !qGone T e s it ((x / 8 : Nat) : Int) ((x % 8 : Nat) : Int)), ?_, fun a b ha hb hr => ?_⟩
  · refine (hl.filter fun x hx hp hpar => ?_).congr fun x hx k hk' => ?_
    · obtain ⟨x1, x2, x3⟩ := hl.mem x hx
      obtain ⟨b1, b2, b3, b4, b5⟩ := x3.resolve_left (by omega)
      rw [show (oG T x 2 * 8 + oG T x 3).toNat / 8 = (oG T x 2).toNat by omega, show (oG T x 2 * 8 + oG T x 3).toNat % 8 = (oG T x 3).toNat by omega, show (((oG T x 2).toNat : Nat) : Int) = oG T x 2 by omega, show (((oG T x 3).toNat : Nat) : Int) = oG T x 3 by omega]
      cases hq : qGone T e s it (oG T x 2) (oG T x 3) with
      | false => rfl
      | true =>
        have := h.child (e := e) (s := s) (it := it) (a := ((x / 8 : Nat) : Int)) (b := ((x % 8 : Nat) : Int)) (by omega) (by omega) (by omega) x2 hpar hq
        rw [this] at hp
        cases hp
    · obtain ⟨h1, h2⟩ := List.mem_filter.1 hx
      exact atx x k (hl.mem x h1).1 hk' (by simpa using h2)
  · have g1 := at' a b 1 hb (by omega) (by omega)
    rw [show ((1 : Nat) : Int) = 1 from rfl] at g1
    rw [g1] at hr
    cases hq : qGone T e s it a b with
    | true => rw [hq] at hr; exact absurd rfl hr
    | false =>
      rw [hq] at hr
      refine List.mem_filter.2 ⟨hm a b ha hb hr, ?_⟩
      rw [show (a * 8 + b) / 8 = a by omega, show (a * 8 + b) % 8 = b by omega, hq]; rfl
theorem TI.der {n : Int} {T W W' : List Int} (h : TI n T W) {e s t d r : Int} (hk : KT (derL n T e s t d r) W') : TI n (derL n T e s t d r) W' := by
  by_cases hE : derE n T e s t d r = 0
  · have hL : derL n T e s t d r = cSet T t d (cG T e s 0) r e s := by unfold derL; rw [if_pos hE]
    rw [hL] at hk ⊢
    unfold derE at hE
    split at hE
    · cases hE
    · rename_i h1
      split at hE
      · cases hE
      · rename_i h2
        split at hE
        · cases hE
        · rename_i h3
          have p1 : plOk n e s = true := by
            cases h : plOk n e s with
            | true => rfl
            | false => rw [h] at h1; simp at h1
          have p2 : plOk n t d = true := by
            cases h : plOk n t d with
            | true => rfl
            | false => rw [h] at h1; simp at h1
          have p3 : rightsB r = true := by
            cases h : rightsB r with
            | true => rfl
            | false => rw [h] at h1; simp at h1
          simp only [plOk, Bool.and_eq_true, decide_eq_true_eq] at p1 p2
          simp only [rightsB, Bool.and_eq_true, decide_eq_true_eq] at p3
          have h3' : cG T t d 1 = 0 := by
            by_cases h : cG T t d 1 = 0
            · exact h
            · exact absurd h h3
          exact h.put (by omega) (by omega) (by omega) (by omega) h3' (by omega) (.inr ⟨by omega, by omega, by omega, by omega, h2⟩) hk
  · have hL : derL n T e s t d r = T := by unfold derL; rw [if_neg hE]
    rw [hL] at hk ⊢
    exact ⟨h.n1, h.n4, h.len, hk, h.ord⟩
theorem TI.start {n : Int} (n1 : 1 ≤ n) (n4 : n ≤ 4) : TI n (List.replicate (n * 32).toNat 0) (1 :: n :: 16 :: List.replicate 512 0) := by
  have z : ∀ m j : Nat, (List.replicate m (0 : Int)).getD j 0 = 0 := fun m j => by
    rw [List.getD_eq_getElem?_getD, List.getElem?_replicate]; split <;> rfl
  have zT : ∀ a b k : Int, cG (List.replicate (n * 32).toNat 0) a b k = 0 := fun a b k => z _ _
  have zW : ∀ j : Nat, 3 ≤ j → (1 :: n :: 16 :: List.replicate 512 (0 : Int)).getD j 0 = 0 := fun j hj => by
    obtain ⟨m, rfl⟩ : ∃ m, j = m + 3 := ⟨j - 3, by omega⟩
    exact z 512 m
  refine ⟨n1, n4, by rw [List.length_replicate]; omega, ⟨by show (List.replicate 512 (0 : Int)).length + 1 + 1 + 1 = 515; rw [List.length_replicate], fun e s _ _ => ?_, fun e s k _ _ _ => ?_, fun j h1 _ => zW j (by omega), fun e s _ _ => by rw [zT]; decide⟩, [], trivial, fun e s _ _ h => absurd (zT _ _ _) h⟩
  · rw [zT]; unfold kG; rw [zW _ (by omega)]; rfl
  · rw [zT]; unfold kG; rw [zW _ (by omega)]
end Go.Sx
