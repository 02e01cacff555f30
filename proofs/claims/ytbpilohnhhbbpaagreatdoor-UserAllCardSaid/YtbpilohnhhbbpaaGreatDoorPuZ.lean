/- The executor: texts of it, one behind another. -/
import Derived.Test.YtbpilohnhhbbpaaGreatDoorSxM7
set_option linter.unusedVariables false
set_option linter.constructorNameAsVariable false
/- Remainders. -/
namespace Go.Sx
theorem tmodR {x m : Int} (h : 0 < m) : -m < x.tmod m ∧ x.tmod m < m := by
  have h1 := Int.tmod_lt_of_pos x h
  have h2 := Int.tmod_lt_of_pos (-x) h
  rw [Int.neg_tmod] at h2
  omega
theorem tmodP {x m : Int} (hx : 0 ≤ x) (h : 0 < m) : 0 ≤ x.tmod m ∧ x.tmod m < m := by
  rw [Int.tmod_eq_emod_of_nonneg hx]
  exact ⟨Int.emod_nonneg x (by omega), Int.emod_lt_of_pos x h⟩
end Go.Sx
/- What a page table's functions compute: a list of 24 numbers, three to an entry. -/
set_option linter.unusedVariables false
namespace Go.Sx
def tG (L : List Int) (p k : Int) : Int := L.getD (p * 3 + k).toNat 0
def tSet3 (L : List Int) (p f s r : Int) : List Int := ((L.set (p * 3).toNat f).set (p * 3 + 1).toNat s).set (p * 3 + 2).toNat r
def pageOk (p : Int) : Bool := decide (0 ≤ p) && decide (p < 8)
def insE (L : List Int) (p f s r : Int) : Int := if !pteOk f s r || decide (r = 0) || !pageOk p then 2 else if tG L p 2 ≠ 0 then 4 else 0
def insL (L : List Int) (p f s r : Int) : List Int := if insE L p f s r = 0 then tSet3 L p f s r else L
def remE (L : List Int) (p : Int) : Int := if !pageOk p then 2 else if tG L p 2 = 0 then 3 else 0
def remL (L : List Int) (p : Int) : List Int := if remE L p = 0 then tSet3 L p 0 0 0 else L
def remV (L : List Int) (p k : Int) : Int := if remE L p = 0 then tG L p k else 0
def proE (L : List Int) (p r : Int) : Int := if !pageOk p || !rightsB r then 2 else if tG L p 2 = 0 then 3 else 0
def proL (L : List Int) (p r : Int) : List Int := if proE L p r = 0 then L.set (p * 3 + 2).toNat r else L
def atOk (L : List Int) (p : Int) : Bool := pageOk p && decide (tG L p 2 ≠ 0)
def atV (L : List Int) (p k : Int) : Int := if atOk L p then tG L p k else 0
def byUp (L : List Int) (s : Int) : Nat → List Int
  | 0 => []
  | n + 1 => if tG L n 2 ≠ 0 ∧ tG L n 1 = s then byUp L s n ++ [(n : Int)] else byUp L s n
def wordsL (L : List Int) : List Int := (List.range 8).map fun (p : Nat) => pteN (tG L (p : Int) 0) (tG L (p : Int) 1) (tG L (p : Int) 2)
theorem tG_set3 {T : List Int} {p f s r : Int} {q : Nat} {k : Nat} (hT : T.length = 24) (h0 : 0 ≤ p) (h8 : p < 8) (hk : k < 3) :
    tG (tSet3 T p f s r) q k = if (q : Int) = p then (if k = 0 then f else if k = 1 then s else r) else tG T q k := by
  obtain ⟨n, rfl⟩ : ∃ n : Nat, p = n := ⟨p.toNat, by omega⟩
  have e0 : ((n : Int) * 3).toNat = n * 3 := by omega
  have e1 : ((n : Int) * 3 + 1).toNat = n * 3 + 1 := by omega
  have e2 : ((n : Int) * 3 + 2).toNat = n * 3 + 2 := by omega
  have eq : ((q : Int) * 3 + (k : Int)).toNat = q * 3 + k := by omega
  simp only [tG, tSet3, e0, e1, e2, eq, List.getD_eq_getElem?_getD, List.getElem?_set, List.length_set, hT]
  have hn : n < 8 := by omega
  by_cases hq : q = n
  · subst hq
    have b0 : q * 3 < 24 := by omega
    have b1 : q * 3 + 1 < 24 := by omega
    have b2 : q * 3 + 2 < 24 := by omega
    have : k = 0 ∨ k = 1 ∨ k = 2 := by omega
    rcases this with rfl | rfl | rfl
    · simp [b0]
    · simp [b1]
    · simp [b2]
  · have h1 : n * 3 ≠ q * 3 + k := by omega
    have h2 : n * 3 + 1 ≠ q * 3 + k := by omega
    have h3 : n * 3 + 2 ≠ q * 3 + k := by omega
    have h4 : ¬ ((q : Int) = (n : Int)) := by omega
    simp [h1, h2, h3, h4]
theorem tSet3_len {T : List Int} {p f s r : Int} : (tSet3 T p f s r).length = T.length := by simp [tSet3]
theorem ins_ok {T : List Int} {p f s r : Int} (h : pteOk f s r = true) (hr : r ≠ 0) (h0 : 0 ≤ p) (h8 : p < 8) (hz : tG T p 2 = 0) : insE T p f s r = 0 ∧ insL T p f s r = tSet3 T p f s r := by
  have : insE T p f s r = 0 := by simp [insE, h, hr, pageOk, h0, h8, hz]
  exact ⟨this, by simp [insL, this]⟩
theorem byUp_succ (T : List Int) (s : Int) (n : Nat) : byUp T s (n + 1) = if tG T n 2 ≠ 0 ∧ tG T n 1 = s then byUp T s n ++ [(n : Int)] else byUp T s n := rfl
theorem byUp_len (T : List Int) (s : Int) : ∀ n : Nat, (byUp T s n).length ≤ n
  | 0 => Nat.le_refl 0
  | n + 1 => by
    have := byUp_len T s n
    rw [byUp_succ]
    split
    · rw [List.length_append, List.length_singleton]; omega
    · omega
theorem byUp_congr {T T' : List Int} {s : Int} : ∀ {n : Nat}, (∀ q : Nat, q < n → tG T' q 1 = tG T q 1 ∧ tG T' q 2 = tG T q 2) → byUp T' s n = byUp T s n
  | 0, _ => rfl
  | n + 1, h => by
    rw [byUp_succ, byUp_succ, (h n (Nat.lt_succ_self n)).1, (h n (Nat.lt_succ_self n)).2, byUp_congr fun q hq => h q (by omega)]
theorem byUp_zero {T : List Int} {s : Int} {i : Nat} : ∀ {n : Nat}, i ≤ n → (∀ q : Nat, q < n → i ≤ q → tG T q 2 = 0) → byUp T s n = byUp T s i
  | 0, h, _ => by rw [show i = 0 by omega]
  | n + 1, h, hz => by
    by_cases hi : i = n + 1
    · rw [hi]
    · rw [byUp_succ, if_neg (fun c => c.1 (hz n (by omega) (by omega)))]
      exact byUp_zero (by omega) fun q hq hiq => hz q (by omega) hiq
structure TabSt (T : List Int) (i : Int) : Prop where
  i0 : 0 ≤ i
  i8 : i ≤ 8
  len : T.length = 24
  free : ∀ q : Nat, q < 8 → i ≤ q → tG T q 2 = 0
  slot : ∀ q : Nat, q < 8 → 0 ≤ tG T q 1 ∧ tG T q 1 < 8
structure BySt (T : List Int) (i j n c : Int) (W : List Int) : Prop where
  list : W = byUp T j i.toNat
  cnt : n = (W.length : Int)
  cap : n ≤ c
theorem TabSt.start : TabSt (List.replicate 24 0) 0 := by
  refine ⟨by omega, by omega, rfl, fun q hq _ => ?_, fun q hq => ?_⟩
  · simp only [tG, List.getD_eq_getElem?_getD, List.getElem?_replicate]; split <;> rfl
  · simp only [tG, List.getD_eq_getElem?_getD, List.getElem?_replicate]; split <;> exact ⟨by decide, by decide⟩
theorem TabSt.step {T : List Int} {i f s r : Int} (h : TabSt T i) (hi : i < 8) (h0 : 0 ≤ s) (h8 : s < 8) : TabSt (tSet3 T i f s r) (i + 1) := by
  have g1 := fun q : Nat => tG_set3 (q := q) (k := 1) (f := f) (s := s) (r := r) h.len h.i0 hi (by omega)
  have g2 := fun q : Nat => tG_set3 (q := q) (k := 2) (f := f) (s := s) (r := r) h.len h.i0 hi (by omega)
  refine ⟨by have := h.i0; omega, by omega, by rw [tSet3_len]; exact h.len, fun q hq hiq => ?_, fun q hq => ?_⟩
  · rw [show ((2 : Int)) = ((2 : Nat) : Int) by rfl, g2 q, if_neg (by omega)]
    exact h.free q hq (by omega)
  · rw [show ((1 : Int)) = ((1 : Nat) : Int) by rfl, g1 q]
    split
    · simp; omega
    · exact h.slot q hq
theorem BySt.step {T : List Int} {i f s r j n c : Int} {W : List Int} (h : TabSt T i) (hi : i < 8) (hr : r ≠ 0) (b : BySt T i j n c W) :
    (s ≠ j → BySt (tSet3 T i f s r) (i + 1) j n c W) ∧ (s = j → ∀ c', n + 1 ≤ c' → BySt (tSet3 T i f s r) (i + 1) j (n + 1) c' (W ++ [i])) := by
  have g1 := fun q : Nat => tG_set3 (q := q) (k := 1) (f := f) (s := s) (r := r) h.len h.i0 hi (by omega)
  have g2 := fun q : Nat => tG_set3 (q := q) (k := 2) (f := f) (s := s) (r := r) h.len h.i0 hi (by omega)
  have i0 := h.i0
  obtain ⟨m, rfl⟩ : ∃ m : Nat, i = m := ⟨i.toNat, by omega⟩
  have e : byUp (tSet3 T m f s r) j m = byUp T j m := byUp_congr fun q hq => by
    refine ⟨?_, ?_⟩
    · have := g1 q; rw [if_neg (by omega)] at this; exact this
    · have := g2 q; rw [if_neg (by omega)] at this; exact this
  have a1 : tG (tSet3 T m f s r) m 1 = s := by have := g1 m; rw [if_pos rfl] at this; exact this
  have a2 : tG (tSet3 T m f s r) m 2 = r := by have := g2 m; rw [if_pos rfl] at this; exact this
  have et : ((m : Int) + 1).toNat = m + 1 := by omega
  have bl := b.list
  rw [Int.toNat_natCast] at bl
  refine ⟨fun hs => ⟨?_, b.cnt, b.cap⟩, fun hs c' hc => ⟨?_, ?_, hc⟩⟩
  · rw [et, byUp_succ, a1, a2, if_neg (fun c => hs c.2), e, bl]
  · rw [et, byUp_succ, a1, a2, if_pos ⟨hr, hs⟩, e, bl]
  · rw [List.length_append, List.length_singleton, b.cnt]; push_cast; rfl
theorem BySt.small {T : List Int} {i j n c : Int} {W : List Int} (h : TabSt T i) (b : BySt T i j n c W) : n ≤ 8 := by
  have := byUp_len T j i.toNat
  rw [← b.list] at this
  have := b.cnt; have := h.i8; have := h.i0
  omega
theorem BySt.fin {T : List Int} {i j n c : Int} {W : List Int} (h : TabSt T i) (b : BySt T i j n c W) : W = byUp T j 8 := by
  rw [b.list]
  have := h.i8; have := h.i0
  exact (byUp_zero (by omega) fun q hq hiq => h.free q hq (by omega)).symm
theorem byUp_none {T : List Int} {i j : Int} (h : TabSt T i) (hj : j < 0 ∨ 8 ≤ j) : byUp T j 8 = [] := by
  have : ∀ n : Nat, n ≤ 8 → byUp T j n = [] := by
    intro n
    induction n with
    | zero => intro _; rfl
    | succ n ih =>
      intro hn
      have := h.slot n (by omega)
      rw [byUp_succ, if_neg (fun c => by have := c.2; omega)]
      exact ih (by omega)
  exact this 8 (Nat.le_refl 8)
structure WSt (W : List Int) : Prop where
  len : W.length = 24
  zero : ∀ q : Nat, q < 8 → tG W q 2 = 0 → tG W q 0 = 0 ∧ tG W q 1 = 0
theorem WSt.start : WSt (List.replicate 24 0) := by
  refine ⟨rfl, fun q hq _ => ⟨?_, ?_⟩⟩ <;> simp only [tG, List.getD_eq_getElem?_getD, List.getElem?_replicate] <;> split <;> rfl
theorem tG_cast {T : List Int} {p : Int} (h : 0 ≤ p) (k : Int) : tG T (p.toNat : Int) k = tG T p k := by rw [show ((p.toNat : Nat) : Int) = p by omega]
theorem WSt.at {W : List Int} (h : WSt W) {p : Int} (h0 : 0 ≤ p) (h8 : p < 8) (hz : tG W p 2 = 0) : tG W p 0 = 0 ∧ tG W p 1 = 0 := by
  have := h.zero p.toNat (by omega) (by rw [tG_cast h0]; exact hz)
  rwa [tG_cast h0, tG_cast h0] at this
theorem WSt.set {W : List Int} (h : WSt W) {p f s r : Int} (h0 : 0 ≤ p) (h8 : p < 8) (hz : r = 0 → f = 0 ∧ s = 0) : WSt (tSet3 W p f s r) := by
  have g := fun (q k : Nat) (hk : k < 3) => tG_set3 (q := q) (k := k) (f := f) (s := s) (r := r) h.len h0 h8 hk
  refine ⟨by rw [tSet3_len]; exact h.len, fun q hq => ?_⟩
  have g0 := g q 0 (by omega); have g1 := g q 1 (by omega); have g2 := g q 2 (by omega)
  by_cases hp : (q : Int) = p
  · simp only [hp, if_true] at g0 g1 g2
    rw [hp]
    intro h2
    have e2 : r = 0 := by rw [← h2]; exact g2.symm
    exact ⟨g0.trans (hz e2).1, g1.trans (hz e2).2⟩
  · simp only [hp, if_false] at g0 g1 g2
    intro h2
    have e2 : tG W q 2 = 0 := by rw [← h2]; exact g2.symm
    exact ⟨g0.trans (h.zero q hq e2).1, g1.trans (h.zero q hq e2).2⟩
theorem list_set_same {l : List Int} {i : Nat} {x : Int} (h : l.getD i 0 = x) (hi : i < l.length) : l.set i x = l := by
  subst h
  apply List.ext_getElem?
  intro j
  rw [List.getElem?_set]
  by_cases hj : i = j
  · subst hj; simp [hi]
  · simp [hj]
theorem tSet3_same {W : List Int} {p f s r : Int} (hl : W.length = 24) (h0 : 0 ≤ p) (h8 : p < 8) (e0 : tG W p 0 = f) (e1 : tG W p 1 = s) (e2 : tG W p 2 = r) : tSet3 W p f s r = W := by
  unfold tSet3
  have a0 : W.set (p * 3).toNat f = W := list_set_same (by rw [← e0]; unfold tG; rw [Int.add_zero]) (by omega)
  rw [a0]
  have a1 : W.set (p * 3 + 1).toNat s = W := list_set_same e1 (by omega)
  rw [a1]
  exact list_set_same e2 (by omega)
theorem WSt.same {W : List Int} (h : WSt W) {p : Int} (h0 : 0 ≤ p) (h8 : p < 8) (hz : tG W p 2 = 0) : tSet3 W p 0 0 0 = W :=
  tSet3_same h.len h0 h8 (h.at h0 h8 hz).1 (h.at h0 h8 hz).2 hz
theorem WSt.pro {W : List Int} (h : WSt W) {p r : Int} (h0 : 0 ≤ p) (h8 : p < 8) (hr : r ≠ 0) : WSt (W.set (p * 3 + 2).toNat r) := by
  have e : W.set (p * 3 + 2).toNat r = tSet3 W p (tG W p 0) (tG W p 1) r := by
    unfold tSet3
    have a0 : W.set (p * 3).toNat (tG W p 0) = W := list_set_same (by unfold tG; rw [Int.add_zero]) (by have := h.len; omega)
    rw [a0]
    have a1 : W.set (p * 3 + 1).toNat (tG W p 1) = W := list_set_same rfl (by have := h.len; omega)
    rw [a1]
  rw [e]
  exact h.set h0 h8 fun c => absurd c hr
theorem byUp_le (T : List Int) (s : Int) {m : Nat} : ∀ {n : Nat}, m ≤ n → ∃ R, byUp T s n = byUp T s m ++ R
  | 0, h => ⟨[], by rw [show m = 0 by omega]; simp⟩
  | n + 1, h => by
    by_cases hm : m = n + 1
    · exact ⟨[], by rw [hm]; simp⟩
    · obtain ⟨R, hR⟩ := byUp_le T s (m := m) (n := n) (by omega)
      rw [byUp_succ, hR]
      split
      · exact ⟨R ++ [(n : Int)], by rw [List.append_assoc]⟩
      · exact ⟨R, rfl⟩
theorem byUp_next {T : List Int} {s : Int} {i : Nat} (hi : i < 8) (h2 : tG T i 2 ≠ 0) (h1 : tG T i 1 = s) :
    (byUp T s i).length < (byUp T s 8).length ∧ (byUp T s 8).getD (byUp T s i).length 0 = i ∧ (byUp T s (i + 1)).length = (byUp T s i).length + 1 := by
  have e : byUp T s (i + 1) = byUp T s i ++ [(i : Int)] := by rw [byUp_succ, if_pos ⟨h2, h1⟩]
  obtain ⟨R, hR⟩ := byUp_le T s (m := i + 1) (n := 8) (by omega)
  rw [e, List.append_assoc] at hR
  refine ⟨by rw [hR]; simp, ?_, by rw [e]; simp⟩
  rw [hR]
  simp [List.getD_eq_getElem?_getD]
theorem byUp_skip {T : List Int} {s : Int} {i : Nat} (h : ¬ (tG T i 2 ≠ 0 ∧ tG T i 1 = s)) : byUp T s (i + 1) = byUp T s i := by rw [byUp_succ, if_neg h]
theorem wordsL_at {T : List Int} {i : Nat} (hi : i < 8) : (wordsL T).getD i 0 = pteN (tG T i 0) (tG T i 1) (tG T i 2) := by
  simp [wordsL, List.getD_eq_getElem?_getD, hi]
theorem atV_ok {T : List Int} (h : WSt T) {i : Nat} (hi : i < 8) : atV T i 0 = tG T i 0 ∧ atV T i 1 = tG T i 1 ∧ atV T i 2 = tG T i 2 ∧ atOk T i = decide (tG T i 2 ≠ 0) := by
  have hp : pageOk (i : Int) = true := by simp only [pageOk, Bool.and_eq_true, decide_eq_true_eq]; omega
  have ho : atOk T i = decide (tG T i 2 ≠ 0) := by rw [atOk, hp, Bool.true_and]
  refine ⟨?_, ?_, ?_, ho⟩ <;> unfold atV <;> rw [ho] <;> by_cases hz : tG T i 2 = 0
  · simp [hz, (h.zero i hi hz).1]
  · simp [hz]
  · simp [hz, (h.zero i hi hz).2]
  · simp [hz]
  · simp [hz]
  · simp [hz]
end Go.Sx
/- What a buffer's functions compute: a list of 41 numbers, five to a place (environment, page, frame, rights, when), then the clock. -/
set_option linter.unusedVariables false
namespace Go.Sx
def gI (L : List Int) (i : Int) : Int := L.getD i.toNat 0
def hitB (L : List Int) (e p o : Int) : Bool := decide (gI L o = e) && decide (gI L (o + 1) = p)
def baseB (p : Int) : Int := p % 4 * 10
def atB (L : List Int) (e p : Int) : Int :=
  if e < 0 ∨ p < 0 ∨ 8 ≤ p then -1 else if hitB L e p (baseB p) then baseB p else if hitB L e p (baseB p + 5) then baseB p + 5 else -1
def emptyB (L : List Int) (o : Int) : List Int := (((L.set o.toNat (-1)).set (o + 1).toNat 0).set (o + 2).toNat 0).set (o + 3).toNat 0
def findB (L : List Int) (e p k : Int) : Int := if atB L e p = -1 then 0 else gI L (atB L e p + k)
def flushB (L : List Int) (e p : Int) : List Int := if atB L e p = -1 then L else emptyB L (atB L e p)
def lineOk (e p f r : Int) : Bool := decide (0 ≤ e) && (decide (e < 4) && (decide (0 ≤ p) && (decide (p < 8) && (decide (0 ≤ f) && (decide (f < 16) && rightsB r)))))
def roomB (L : List Int) (b : Int) : Int := if gI L b < 0 then b else if gI L (b + 5) < 0 then b + 5 else if gI L (b + 9) < gI L (b + 4) then b + 5 else b
def placeB (L : List Int) (e p : Int) : Int := if atB L e p = -1 then roomB L (baseB p) else atB L e p
def putB (L : List Int) (o e p f r n : Int) : List Int := (((((L.set 40 n).set o.toNat e).set (o + 1).toNat p).set (o + 2).toNat f).set (o + 3).toNat r).set (o + 4).toNat (gI (L.set 40 n) 40)
def fillB (L : List Int) (e p f r : Int) : List Int := if lineOk e p f r then putB L (placeB L e p) e p f r (IntKind.wrap .i64 (gI L 40 + 1)) else L
def evictOk (L : List Int) (s w : Int) : Bool := decide (0 ≤ s) && (decide (s < 4) && (decide (0 ≤ w) && (decide (w < 2) && decide (0 ≤ gI L (s * 10 + w * 5)))))
def evictB (L : List Int) (s w : Int) : List Int := if evictOk L s w then emptyB L (s * 10 + w * 5) else L
def linesB (L : List Int) : List Int := [gI L 0, gI L 1, gI L 2, gI L 3, gI L 5, gI L 6, gI L 7, gI L 8, gI L 10, gI L 11, gI L 12, gI L 13, gI L 15, gI L 16, gI L 17, gI L 18, gI L 20, gI L 21, gI L 22, gI L 23, gI L 25, gI L 26, gI L 27, gI L 28, gI L 30, gI L 31, gI L 32, gI L 33, gI L 35, gI L 36, gI L 37, gI L 38]
def ffB (L0 : List Int) (f : Int) : Nat → List Int × Int
  | 0 => (L0, 0)
  | i + 1 =>
    let q := ffB L0 f i
    if 0 ≤ gI L0 (i * 5) ∧ gI L0 (i * 5 + 2) = f ∧ atB q.1 (gI L0 (i * 5)) (gI L0 (i * 5 + 1)) ≠ -1 then (flushB q.1 (gI L0 (i * 5)) (gI L0 (i * 5 + 1)), q.2 + 1) else q
def clearB (L : List Int) : List Int := emptyB (emptyB (emptyB (emptyB (emptyB (emptyB (emptyB (emptyB L 0) 5) 10) 15) 20) 25) 30) 35
theorem linesB_at {L : List Int} {k j : Nat} (hk : k < 8) (hj : j < 4) : (linesB L).getD (k * 4 + j) 0 = gI L ((k : Int) * 5 + (j : Int)) := by
  have h1 : k = 0 ∨ k = 1 ∨ k = 2 ∨ k = 3 ∨ k = 4 ∨ k = 5 ∨ k = 6 ∨ k = 7 := by omega
  have h2 : j = 0 ∨ j = 1 ∨ j = 2 ∨ j = 3 := by omega
  rcases h1 with rfl | rfl | rfl | rfl | rfl | rfl | rfl | rfl <;> rcases h2 with rfl | rfl | rfl | rfl <;> rfl
theorem ffB_succ (L0 : List Int) (f : Int) (i : Nat) : ffB L0 f (i + 1) =
    if 0 ≤ gI L0 (i * 5) ∧ gI L0 (i * 5 + 2) = f ∧ atB (ffB L0 f i).1 (gI L0 (i * 5)) (gI L0 (i * 5 + 1)) ≠ -1 then (flushB (ffB L0 f i).1 (gI L0 (i * 5)) (gI L0 (i * 5 + 1)), (ffB L0 f i).2 + 1) else ffB L0 f i := rfl
theorem ffB_le (L0 : List Int) (f : Int) : ∀ i : Nat, 0 ≤ (ffB L0 f i).2 ∧ (ffB L0 f i).2 ≤ i
  | 0 => by simp [ffB]
  | i + 1 => by
    have := ffB_le L0 f i
    rw [ffB_succ]
    split
    · simp only; omega
    · omega
theorem flushB_none {L : List Int} {e p : Int} (h : atB L e p = -1) : flushB L e p = L := by simp [flushB, h]
end Go.Sx
/- What the document's buffer computes: a list of 41 numbers: eight lines of four, when each was filled, the clock. -/
set_option linter.unusedVariables false
namespace Go.Sx
def hitR (M : List Int) (e p : Int) (i : Nat) : Bool := decide (0 ≤ gI M (i * 4)) && (decide (gI M (i * 4) = e) && decide (gI M (i * 4 + 1) = p))
def rfB (M : List Int) (e p : Int) : Nat → Int
  | 0 => -1
  | n + 1 => if rfB M e p n ≠ -1 then rfB M e p n else if hitR M e p n then n else -1
def noneR (M : List Int) (i : Int) : List Int := (((M.set (i * 4).toNat (-1)).set (i * 4 + 1).toNat 0).set (i * 4 + 2).toNat 0).set (i * 4 + 3).toNat 0
def findR (M : List Int) (e p k : Int) : Int := if rfB M e p 8 = -1 then 0 else gI M (rfB M e p 8 * 4 + k)
def flushR (M : List Int) (e p : Int) : List Int := if rfB M e p 8 = -1 then M else noneR M (rfB M e p 8)
def roomR (M : List Int) (f : Int) : Int := if gI M (f * 4) < 0 then f else if gI M (f * 4 + 4) < 0 then f + 1 else if gI M (33 + f) < gI M (32 + f) then f + 1 else f
def placeR (M : List Int) (e p : Int) : Int := if rfB M e p 8 = -1 then roomR M (p % 4 * 2) else rfB M e p 8
def putR (M : List Int) (i e p f r n : Int) : List Int := (((((M.set 40 n).set (i * 4).toNat e).set (i * 4 + 1).toNat p).set (i * 4 + 2).toNat f).set (i * 4 + 3).toNat r).set (32 + i).toNat (gI (M.set 40 n) 40)
def fillR (M : List Int) (e p f r : Int) : List Int := if lineOk e p f r then putR M (placeR M e p) e p f r (IntKind.wrap .i64 (gI M 40 + 1)) else M
def evictIn (s w : Int) : Bool := decide (0 ≤ s) && (decide (s < 4) && (decide (0 ≤ w) && decide (w < 2)))
def evictROk (M : List Int) (s w : Int) : Bool := evictIn s w && decide (0 ≤ gI M ((s * 2 + w) * 4))
def evictR (M : List Int) (s w : Int) : List Int := if evictIn s w then noneR M (s * 2 + w) else M
def ffR (M : List Int) (f : Int) : Nat → List Int × Int
  | 0 => (M, 0)
  | i + 1 =>
    let q := ffR M f i
    if 0 ≤ gI q.1 (i * 4) ∧ gI q.1 (i * 4 + 2) = f then (noneR q.1 i, q.2 + 1) else q
theorem rfB_succ (M : List Int) (e p : Int) (n : Nat) : rfB M e p (n + 1) = if rfB M e p n ≠ -1 then rfB M e p n else if hitR M e p n then (n : Int) else -1 := rfl
theorem rfB_range (M : List Int) (e p : Int) : ∀ n : Nat, -1 ≤ rfB M e p n ∧ rfB M e p n < n ∨ rfB M e p n = -1
  | 0 => .inr rfl
  | n + 1 => by
    have := rfB_range M e p n
    rw [rfB_succ]
    split
    · omega
    · split <;> omega
theorem rfB_stay {M : List Int} {e p : Int} {k : Nat} (h : rfB M e p k ≠ -1) : ∀ {n : Nat}, k ≤ n → rfB M e p n = rfB M e p k
  | 0, hk => by rw [show k = 0 by omega]
  | n + 1, hk => by
    by_cases hc : k = n + 1
    · rw [hc]
    · have := rfB_stay h (n := n) (by omega)
      rw [rfB_succ, this, if_pos h]
theorem ffR_succ (M : List Int) (f : Int) (i : Nat) : ffR M f (i + 1) = if 0 ≤ gI (ffR M f i).1 (i * 4) ∧ gI (ffR M f i).1 (i * 4 + 2) = f then (noneR (ffR M f i).1 i, (ffR M f i).2 + 1) else ffR M f i := rfl
theorem ffR_le (M : List Int) (f : Int) : ∀ i : Nat, 0 ≤ (ffR M f i).2 ∧ (ffR M f i).2 ≤ i
  | 0 => by simp [ffR]
  | i + 1 => by
    have := ffR_le M f i
    rw [ffR_succ]
    split
    · simp only; omega
    · omega
end Go.Sx
/- The buffer's list and the document's: what is in one is in the other. -/
set_option linter.unusedVariables false
namespace Go.Sx
theorem gI_set {L : List Int} {n : Nat} {v q : Int} (hn : n < L.length) : gI (L.set n v) q = if q.toNat = n then v else gI L q := by
  simp only [gI, List.getD_eq_getElem?_getD, List.getElem?_set]
  by_cases h : n = q.toNat
  · subst h; simp [hn]
  · have h' : ¬ q.toNat = n := fun c => h c.symm
    simp [h, h']
theorem emptyB_len {L : List Int} {o : Int} : (emptyB L o).length = L.length := by simp [emptyB]
theorem noneR_len {L : List Int} {o : Int} : (noneR L o).length = L.length := by simp [noneR]
theorem putB_len {L : List Int} {o e p f r n : Int} : (putB L o e p f r n).length = L.length := by simp [putB]
theorem putR_len {L : List Int} {o e p f r n : Int} : (putR L o e p f r n).length = L.length := by simp [putR]
theorem gI_emptyB {L : List Int} {o q : Int} (h : L.length = 41) (h0 : 0 ≤ o) (h1 : o ≤ 37) (hq : 0 ≤ q) :
    gI (emptyB L o) q = if q = o then -1 else if o < q ∧ q ≤ o + 3 then 0 else gI L q := by
  unfold emptyB
  rw [gI_set (by simp; omega), gI_set (by simp; omega), gI_set (by simp; omega), gI_set (by omega)]
  repeat' split
  all_goals first | rfl | omega
theorem gI_noneR {L : List Int} {i q : Int} (h : L.length = 41) (h0 : 0 ≤ i) (h1 : i ≤ 7) (hq : 0 ≤ q) :
    gI (noneR L i) q = if q = i * 4 then -1 else if i * 4 < q ∧ q ≤ i * 4 + 3 then 0 else gI L q := by
  unfold noneR
  rw [gI_set (by simp; omega), gI_set (by simp; omega), gI_set (by simp; omega), gI_set (by omega)]
  repeat' split
  all_goals first | rfl | omega
theorem gI_putB {L : List Int} {o e p f r n q : Int} (h : L.length = 41) (h0 : 0 ≤ o) (h1 : o ≤ 35) (hq : 0 ≤ q) :
    gI (putB L o e p f r n) q = if q = o then e else if q = o + 1 then p else if q = o + 2 then f else if q = o + 3 then r else if q = o + 4 then n else if q = 40 then n else gI L q := by
  unfold putB
  have hn : gI (L.set 40 n) 40 = n := by rw [gI_set (by omega)]; rfl
  rw [hn, gI_set (by simp; omega), gI_set (by simp; omega), gI_set (by simp; omega), gI_set (by simp; omega), gI_set (by simp; omega), gI_set (by omega)]
  repeat' split
  all_goals first | rfl | omega
theorem gI_putR {L : List Int} {i e p f r n q : Int} (h : L.length = 41) (h0 : 0 ≤ i) (h1 : i ≤ 7) (hq : 0 ≤ q) :
    gI (putR L i e p f r n) q = if q = i * 4 then e else if q = i * 4 + 1 then p else if q = i * 4 + 2 then f else if q = i * 4 + 3 then r else if q = 32 + i then n else if q = 40 then n else gI L q := by
  unfold putR
  have hn : gI (L.set 40 n) 40 = n := by rw [gI_set (by omega)]; rfl
  rw [hn, gI_set (by simp; omega), gI_set (by simp; omega), gI_set (by simp; omega), gI_set (by simp; omega), gI_set (by simp; omega), gI_set (by omega)]
  repeat' split
  all_goals first | rfl | omega
structure WB (L : List Int) : Prop where
  len : L.length = 41
  page : ∀ i : Int, 0 ≤ i → i < 8 → 0 ≤ gI L (5 * i) → 0 ≤ gI L (5 * i + 1) ∧ gI L (5 * i + 1) < 8 ∧ gI L (5 * i + 1) % 4 = i / 2
  uniq : ∀ i j : Int, 0 ≤ i → i < 8 → 0 ≤ j → j < 8 → 0 ≤ gI L (5 * i) → gI L (5 * i) = gI L (5 * j) → gI L (5 * i + 1) = gI L (5 * j + 1) → i = j
theorem hitB_iff {L : List Int} {e p o : Int} : hitB L e p o = true ↔ gI L o = e ∧ gI L (o + 1) = p := by
  simp [hitB]
theorem WB.at_some {L : List Int} (h : WB L) {e p : Int} (ha : atB L e p ≠ -1) : ∃ i, 0 ≤ i ∧ i < 8 ∧ atB L e p = 5 * i ∧ 0 ≤ e ∧ gI L (5 * i) = e ∧ gI L (5 * i + 1) = p ∧ i / 2 = p % 4 := by
  unfold atB at ha ⊢
  by_cases h1 : e < 0 ∨ p < 0 ∨ 8 ≤ p
  · rw [if_pos h1] at ha; exact absurd rfl ha
  · rw [if_neg h1] at ha ⊢
    by_cases h2 : hitB L e p (baseB p) = true
    · rw [if_pos h2] at ha ⊢
      rw [hitB_iff] at h2
      have hb : baseB p = p % 4 * 10 := rfl
      refine ⟨p % 4 * 2, by omega, by omega, by unfold baseB; omega, by omega, ?_, ?_, by omega⟩
      · rw [show 5 * (p % 4 * 2) = baseB p by omega]; exact h2.1
      · rw [show 5 * (p % 4 * 2) = baseB p by omega]; exact h2.2
    · rw [if_neg h2] at ha ⊢
      by_cases h3 : hitB L e p (baseB p + 5) = true
      · rw [if_pos h3] at ha ⊢
        rw [hitB_iff] at h3
        have hb : baseB p = p % 4 * 10 := rfl
        refine ⟨p % 4 * 2 + 1, by omega, by omega, by unfold baseB; omega, by omega, ?_, ?_, by omega⟩
        · rw [show 5 * (p % 4 * 2 + 1) = baseB p + 5 by omega]; exact h3.1
        · rw [show 5 * (p % 4 * 2 + 1) = baseB p + 5 by omega]; exact h3.2
      · rw [if_neg h3] at ha; exact absurd rfl ha
theorem WB.at_of {L : List Int} (h : WB L) {e p i : Int} (i0 : 0 ≤ i) (i8 : i < 8) (he : 0 ≤ e) (h1 : gI L (5 * i) = e) (h2 : gI L (5 * i + 1) = p) : atB L e p = 5 * i := by
  have hp := h.page i i0 i8 (by omega)
  have ne : atB L e p ≠ -1 := by
    unfold atB
    rw [if_neg (by omega)]
    have hi : i = p % 4 * 2 ∨ i = p % 4 * 2 + 1 := by omega
    have hb : baseB p = p % 4 * 10 := rfl
    rcases hi with hi | hi
    · have : hitB L e p (baseB p) = true := by
        rw [hitB_iff, show baseB p = 5 * i by omega]; exact ⟨h1, h2⟩
      rw [if_pos this]; unfold baseB; omega
    · have : hitB L e p (baseB p + 5) = true := by
        rw [hitB_iff, show baseB p + 5 = 5 * i by omega]; exact ⟨h1, h2⟩
      rw [if_pos this]
      split <;> (unfold baseB; omega)
  obtain ⟨j, j0, j8, hj, _, g1, g2, _⟩ := h.at_some ne
  have := h.uniq i j i0 i8 j0 j8 (by omega) (by omega) (by omega)
  rw [hj, this]
theorem WB.empty {L : List Int} (h : WB L) {i : Int} (i0 : 0 ≤ i) (i8 : i < 8) : WB (emptyB L (5 * i)) := by
  have g := fun q hq => gI_emptyB (L := L) (o := 5 * i) (q := q) h.len (by omega) (by omega) hq
  refine ⟨by rw [emptyB_len]; exact h.len, fun j j0 j8 hj => ?_, fun j k j0 j8 k0 k8 hj e1 e2 => ?_⟩
  · rw [g _ (by omega)] at hj
    have hji : j ≠ i := by intro c; subst c; rw [if_pos rfl] at hj; omega
    rw [if_neg (by omega), if_neg (by omega)] at hj
    rw [g _ (by omega), if_neg (by omega), if_neg (by omega)]
    exact h.page j j0 j8 hj
  · rw [g _ (by omega)] at hj
    have hji : j ≠ i := by intro c; subst c; rw [if_pos rfl] at hj; omega
    rw [if_neg (by omega), if_neg (by omega)] at hj
    rw [g _ (by omega), g _ (by omega), if_neg (by omega), if_neg (by omega)] at e1
    have hki : k ≠ i := by intro c; subst c; rw [if_pos rfl] at e1; omega
    rw [if_neg (by omega), if_neg (by omega)] at e1
    rw [g _ (by omega), g _ (by omega), if_neg (by omega), if_neg (by omega), if_neg (by omega), if_neg (by omega)] at e2
    exact h.uniq j k j0 j8 k0 k8 hj e1 e2
theorem WB.put {L : List Int} (h : WB L) {i e p f r n : Int} (i0 : 0 ≤ i) (i8 : i < 8) (p0 : 0 ≤ p) (p8 : p < 8) (hs : i / 2 = p % 4) (hno : ∀ j : Int, 0 ≤ j → j < 8 → j ≠ i → ¬ (gI L (5 * j) = e ∧ gI L (5 * j + 1) = p)) : WB (putB L (5 * i) e p f r n) := by
  have g := fun q hq => gI_putB (L := L) (o := 5 * i) (e := e) (p := p) (f := f) (r := r) (n := n) (q := q) h.len (by omega) (by omega) hq
  have gi0 : gI (putB L (5 * i) e p f r n) (5 * i) = e := by rw [g _ (by omega), if_pos rfl]
  have gi1 : gI (putB L (5 * i) e p f r n) (5 * i + 1) = p := by rw [g _ (by omega), if_neg (by omega), if_pos rfl]
  have go : ∀ j k : Int, 0 ≤ j → j < 8 → j ≠ i → 0 ≤ k → k ≤ 4 → gI (putB L (5 * i) e p f r n) (5 * j + k) = gI L (5 * j + k) := by
    intro j k j0 j8 hj k0 k4
    rw [g _ (by omega), if_neg (by omega), if_neg (by omega), if_neg (by omega), if_neg (by omega), if_neg (by omega), if_neg (by omega)]
  have go0 : ∀ j : Int, 0 ≤ j → j < 8 → j ≠ i → gI (putB L (5 * i) e p f r n) (5 * j) = gI L (5 * j) := by
    intro j j0 j8 hj
    have := go j 0 j0 j8 hj (by omega) (by omega)
    rwa [Int.add_zero] at this
  refine ⟨by rw [putB_len]; exact h.len, fun j j0 j8 hj => ?_, fun j k j0 j8 k0 k8 hj e1 e2 => ?_⟩
  · by_cases hji : j = i
    · subst hji; rw [gi1]; omega
    · rw [go0 j j0 j8 hji] at hj
      rw [go j 1 j0 j8 hji (by omega) (by omega)]
      exact h.page j j0 j8 hj
  · by_cases hji : j = i
    · by_cases hki : k = i
      · rw [hji, hki]
      · subst hji
        rw [gi0, go0 k k0 k8 hki] at e1
        rw [gi1, go k 1 k0 k8 hki (by omega) (by omega)] at e2
        exact absurd ⟨e1.symm, e2.symm⟩ (hno k k0 k8 hki)
    · by_cases hki : k = i
      · subst hki
        rw [gi0, go0 j j0 j8 hji] at e1
        rw [gi1, go j 1 j0 j8 hji (by omega) (by omega)] at e2
        exact absurd ⟨e1, e2⟩ (hno j j0 j8 hji)
      · rw [go0 j j0 j8 hji] at hj
        rw [go0 j j0 j8 hji, go0 k k0 k8 hki] at e1
        rw [go j 1 j0 j8 hji (by omega) (by omega), go k 1 k0 k8 hki (by omega) (by omega)] at e2
        exact h.uniq j k j0 j8 k0 k8 hj e1 e2
theorem WB.place {L : List Int} (h : WB L) {e p : Int} (e0 : 0 ≤ e) (p0 : 0 ≤ p) (p8 : p < 8) :
    ∃ i, 0 ≤ i ∧ i < 8 ∧ placeB L e p = 5 * i ∧ i / 2 = p % 4 ∧ ∀ j : Int, 0 ≤ j → j < 8 → j ≠ i → ¬ (gI L (5 * j) = e ∧ gI L (5 * j + 1) = p) := by
  unfold placeB
  by_cases ha : atB L e p = -1
  · rw [if_pos ha]
    have hno : ∀ j : Int, 0 ≤ j → j < 8 → ¬ (gI L (5 * j) = e ∧ gI L (5 * j + 1) = p) := by
      rintro j j0 j8 ⟨c1, c2⟩
      have := h.at_of j0 j8 e0 c1 c2
      omega
    have hr : roomB L (baseB p) = baseB p ∨ roomB L (baseB p) = baseB p + 5 := by
      unfold roomB
      repeat' split
      all_goals simp
    rcases hr with hr | hr
    · exact ⟨p % 4 * 2, by omega, by omega, by rw [hr]; unfold baseB; omega, by omega, fun j j0 j8 _ => hno j j0 j8⟩
    · exact ⟨p % 4 * 2 + 1, by omega, by omega, by rw [hr]; unfold baseB; omega, by omega, fun j j0 j8 _ => hno j j0 j8⟩
  · rw [if_neg ha]
    obtain ⟨i, i0, i8, hi, _, g1, g2, hs⟩ := h.at_some ha
    refine ⟨i, i0, i8, hi, hs, fun j j0 j8 hj c => hj ?_⟩
    exact h.uniq j i j0 j8 i0 i8 (by omega) (by omega) (by omega)
theorem WB.fill {L : List Int} (h : WB L) (e p f r : Int) : WB (fillB L e p f r) := by
  unfold fillB
  split
  · rename_i hk
    simp only [lineOk, Bool.and_eq_true, decide_eq_true_eq] at hk
    obtain ⟨i, i0, i8, hi, hs, hno⟩ := h.place (e := e) (p := p) hk.1 hk.2.2.1 hk.2.2.2.1
    rw [hi]
    exact h.put i0 i8 hk.2.2.1 hk.2.2.2.1 hs hno
  · exact h
theorem WB.flush {L : List Int} (h : WB L) (e p : Int) : WB (flushB L e p) := by
  unfold flushB
  split
  · exact h
  · rename_i ha
    obtain ⟨i, i0, i8, hi, _⟩ := h.at_some ha
    rw [hi]; exact h.empty i0 i8
theorem WB.start : WB (clearB (List.replicate 41 0)) := by
  have e : clearB (List.replicate 41 0) = [-1, 0, 0, 0, 0, -1, 0, 0, 0, 0, -1, 0, 0, 0, 0, -1, 0, 0, 0, 0, -1, 0, 0, 0, 0, -1, 0, 0, 0, 0, -1, 0, 0, 0, 0, -1, 0, 0, 0, 0, 0] := by decide
  rw [e]
  have neg : ∀ i : Int, 0 ≤ i → i < 8 → gI [-1, 0, 0, 0, 0, -1, 0, 0, 0, 0, -1, 0, 0, 0, 0, -1, 0, 0, 0, 0, -1, 0, 0, 0, 0, -1, 0, 0, 0, 0, -1, 0, 0, 0, 0, -1, 0, 0, 0, 0, 0] (5 * i) = -1 := by
    intro i i0 i8
    have : i = 0 ∨ i = 1 ∨ i = 2 ∨ i = 3 ∨ i = 4 ∨ i = 5 ∨ i = 6 ∨ i = 7 := by omega
    rcases this with rfl | rfl | rfl | rfl | rfl | rfl | rfl | rfl <;> rfl
  exact ⟨rfl, fun i i0 i8 hi => by rw [neg i i0 i8] at hi; omega, fun i j i0 i8 j0 j8 hi => by rw [neg i i0 i8] at hi; omega⟩
def cntB (L : List Int) (f : Int) : Nat → Int
  | 0 => 0
  | n + 1 => cntB L f n + (if 0 ≤ gI L (5 * n) ∧ gI L (5 * n + 2) = f then 1 else 0)
structure FfSt (L : List Int) (f : Int) (k : Nat) (T : List Int) (n : Int) : Prop where
  wb : WB T
  cell : ∀ i c : Int, 0 ≤ i → i < 8 → 0 ≤ c → c < 4 → gI T (5 * i + c) = if i < k ∧ 0 ≤ gI L (5 * i) ∧ gI L (5 * i + 2) = f then (if c = 0 then -1 else 0) else gI L (5 * i + c)
  time : ∀ i : Int, 0 ≤ i → i < 8 → gI T (5 * i + 4) = gI L (5 * i + 4)
  now : gI T 40 = gI L 40
  cnt : n = cntB L f k
theorem WB.ff {L : List Int} (h : WB L) (f : Int) : ∀ k : Nat, k ≤ 8 → FfSt L f k (ffB L f k).1 (ffB L f k).2
  | 0, _ => ⟨h, fun i c i0 i8 c0 c4 => by rw [if_neg (by omega)]; rfl, fun _ _ _ => rfl, rfl, rfl⟩
  | k + 1, hk => by
    have ih := h.ff f k (by omega)
    have hs := ffB_succ L f k
    have e0 : (k : Int) * 5 = 5 * k := Int.mul_comm _ _
    rw [e0] at hs
    generalize ffB L f k = q at ih hs
    have ck := fun c c0 c4 => ih.cell k c (by omega) (by omega) c0 c4
    by_cases hc : 0 ≤ gI L (5 * k) ∧ gI L (5 * k + 2) = f
    · have hne : atB q.1 (gI L (5 * k)) (gI L (5 * k + 1)) = 5 * (k : Int) := by
        refine ih.wb.at_of (by omega) (by omega) hc.1 ?_ ?_
        · have := ck 0 (by omega) (by omega); rw [if_neg (by omega), Int.add_zero] at this; exact this
        · have := ck 1 (by omega) (by omega); rw [if_neg (by omega)] at this; exact this
      rw [if_pos ⟨hc.1, hc.2, by omega⟩] at hs
      have hfl : flushB q.1 (gI L (5 * k)) (gI L (5 * k + 1)) = emptyB q.1 (5 * k) := by
        unfold flushB; rw [hne, if_neg (by omega)]
      rw [hfl] at hs
      rw [hs]
      have g := fun x hx => gI_emptyB (L := q.1) (o := 5 * (k : Int)) (q := x) ih.wb.len (by omega) (by omega) hx
      refine ⟨ih.wb.empty (by omega) (by omega), fun i c i0 i8 c0 c4 => ?_, fun i i0 i8 => ?_, ?_, ?_⟩
      · simp only
        rw [g _ (by omega)]
        by_cases hi : i = k
        · subst hi
          rw [if_pos (c := (k : Int) < ((k + 1 : Nat) : Int) ∧ _) ⟨by omega, hc⟩]
          by_cases h0 : c = 0
          · rw [if_pos (by omega), if_pos h0]
          · rw [if_neg (by omega), if_pos (by omega), if_neg h0]
        · rw [if_neg (by omega), if_neg (by omega), ih.cell i c i0 i8 c0 c4]
          have : (i < (k : Int) ∧ 0 ≤ gI L (5 * i) ∧ gI L (5 * i + 2) = f) ↔ (i < ((k + 1 : Nat) : Int) ∧ 0 ≤ gI L (5 * i) ∧ gI L (5 * i + 2) = f) := by
            constructor
            · intro h; exact ⟨by omega, h.2⟩
            · intro h; exact ⟨by omega, h.2⟩
          simp only [this]
      · simp only
        rw [g _ (by omega), if_neg (by omega), if_neg (by omega)]
        exact ih.time i i0 i8
      · simp only
        rw [g _ (by omega), if_neg (by omega), if_neg (by omega)]
        exact ih.now
      · simp only [cntB]
        rw [if_pos hc, ih.cnt]
    · rw [if_neg (fun c => hc ⟨c.1, c.2.1⟩)] at hs
      rw [hs]
      refine ⟨ih.wb, fun i c i0 i8 c0 c4 => ?_, ih.time, ih.now, ?_⟩
      · rw [ih.cell i c i0 i8 c0 c4]
        have : (i < (k : Int) ∧ 0 ≤ gI L (5 * i) ∧ gI L (5 * i + 2) = f) ↔ (i < ((k + 1 : Nat) : Int) ∧ 0 ≤ gI L (5 * i) ∧ gI L (5 * i + 2) = f) := by
          constructor
          · intro h; exact ⟨by omega, h.2⟩
          · intro h
            refine ⟨?_, h.2⟩
            by_cases hi : i = k
            · subst hi; exact absurd h.2 hc
            · omega
        simp only [this]
      · simp only [cntB]
        rw [if_neg hc, ih.cnt]; omega
structure NoHit (L : List Int) (e p : Int) (i : Int) : Prop where
  no : ∀ j : Int, 0 ≤ j → j < i → ¬ (0 ≤ gI L (5 * j) ∧ gI L (5 * j) = e ∧ gI L (5 * j + 1) = p)
end Go.Sx
/- The two buffers alike. -/
set_option linter.unusedVariables false
namespace Go.Sx
structure BR (L M : List Int) : Prop where
  lenM : M.length = 41
  cell : ∀ i c : Int, 0 ≤ i → i < 8 → 0 ≤ c → c < 4 → gI L (5 * i + c) = gI M (i * 4 + c)
  time : ∀ i : Int, 0 ≤ i → i < 8 → gI L (5 * i + 4) = gI M (32 + i)
  now : gI L 40 = gI M 40
structure NB (L : List Int) : Prop where
  none : ∀ i : Int, 0 ≤ i → i < 8 → gI L (5 * i) < 0 → gI L (5 * i) = -1 ∧ gI L (5 * i + 1) = 0 ∧ gI L (5 * i + 2) = 0 ∧ gI L (5 * i + 3) = 0
theorem BR.cell0 {L M : List Int} (b : BR L M) {i : Int} (i0 : 0 ≤ i) (i8 : i < 8) : gI L (5 * i) = gI M (i * 4) := by
  have := b.cell i 0 i0 i8 (by omega) (by omega)
  rwa [Int.add_zero, Int.add_zero] at this
theorem hitR_iff {M : List Int} {e p : Int} {i : Nat} : hitR M e p i = true ↔ 0 ≤ gI M (i * 4) ∧ gI M (i * 4) = e ∧ gI M (i * 4 + 1) = p := by
  simp [hitR]
theorem rfB_hit {M : List Int} {e p : Int} : ∀ {n : Nat}, rfB M e p n ≠ -1 → ∃ i : Nat, i < n ∧ rfB M e p n = i ∧ hitR M e p i = true
  | 0, h => absurd rfl h
  | n + 1, h => by
    rw [rfB_succ] at h ⊢
    by_cases hn : rfB M e p n ≠ -1
    · rw [if_pos hn] at h ⊢
      obtain ⟨i, hi, h1, h2⟩ := rfB_hit hn
      exact ⟨i, by omega, h1, h2⟩
    · rw [if_neg hn] at h ⊢
      by_cases hh : hitR M e p n = true
      · rw [if_pos hh]; exact ⟨n, by omega, rfl, hh⟩
      · rw [if_neg hh] at h; exact absurd rfl h
theorem rfB_miss {M : List Int} {e p : Int} : ∀ {n : Nat}, rfB M e p n = -1 → ∀ i : Nat, i < n → hitR M e p i = false
  | 0, _, i, hi => by omega
  | n + 1, h, i, hi => by
    rw [rfB_succ] at h
    by_cases hn : rfB M e p n ≠ -1
    · rw [if_pos hn] at h; exact absurd h hn
    · have hn' : rfB M e p n = -1 := by omega
      rw [if_neg hn] at h
      by_cases hin : i = n
      · subst hin
        cases hh : hitR M e p i with
        | false => rfl
        | true => rw [hh, if_pos rfl] at h; omega
      · exact rfB_miss hn' i (by omega)
theorem BR.at {L M : List Int} (b : BR L M) (h : WB L) (e p : Int) : (rfB M e p 8 = -1 ∧ atB L e p = -1) ∨ ∃ i, 0 ≤ i ∧ i < 8 ∧ rfB M e p 8 = i ∧ atB L e p = 5 * i := by
  by_cases hr : rfB M e p 8 = -1
  · left
    refine ⟨hr, ?_⟩
    cases Decidable.em (atB L e p = -1) with
    | inl h => exact h
    | inr ha =>
      obtain ⟨i, i0, i8, hi, e0, g1, g2, _⟩ := h.at_some ha
      have := rfB_miss hr i.toNat (by omega)
      have c : hitR M e p i.toNat = true := by
        rw [hitR_iff, show ((i.toNat : Nat) : Int) = i by omega, ← b.cell0 i0 i8, ← b.cell i 1 i0 i8 (by omega) (by omega)]
        exact ⟨by omega, g1, g2⟩
      rw [c] at this; cases this
  · right
    obtain ⟨i, hi, h1, h2⟩ := rfB_hit hr
    rw [hitR_iff, ← b.cell0 (by omega) (by omega), ← b.cell i 1 (by omega) (by omega) (by omega) (by omega)] at h2
    exact ⟨i, by omega, by omega, h1, h.at_of (by omega) (by omega) (by omega) h2.2.1 h2.2.2⟩
theorem BR.empty {L M : List Int} (b : BR L M) (h : WB L) {i : Int} (i0 : 0 ≤ i) (i8 : i < 8) : BR (emptyB L (5 * i)) (noneR M i) := by
  have g := fun q hq => gI_emptyB (L := L) (o := 5 * i) (q := q) h.len (by omega) (by omega) hq
  have g' := fun q hq => gI_noneR (L := M) (i := i) (q := q) b.lenM (by omega) (by omega) hq
  refine ⟨by rw [noneR_len]; exact b.lenM, fun j c j0 j8 c0 c4 => ?_, fun j j0 j8 => ?_, ?_⟩
  · rw [g _ (by omega), g' _ (by omega)]
    have := b.cell j c j0 j8 c0 c4
    by_cases hj : j = i
    · subst hj
      by_cases hc : c = 0
      · rw [if_pos (by omega), if_pos (by omega)]
      · rw [if_neg (by omega), if_pos (by omega), if_neg (by omega), if_pos (by omega)]
    · rw [if_neg (by omega), if_neg (by omega), if_neg (by omega), if_neg (by omega)]; exact this
  · rw [g _ (by omega), g' _ (by omega), if_neg (by omega), if_neg (by omega), if_neg (by omega), if_neg (by omega)]
    exact b.time j j0 j8
  · rw [g _ (by omega), g' _ (by omega), if_neg (by omega), if_neg (by omega), if_neg (by omega), if_neg (by omega)]
    exact b.now
theorem BR.put {L M : List Int} (b : BR L M) (h : WB L) {i e p f r n : Int} (i0 : 0 ≤ i) (i8 : i < 8) : BR (putB L (5 * i) e p f r n) (putR M i e p f r n) := by
  have g := fun q hq => gI_putB (L := L) (o := 5 * i) (e := e) (p := p) (f := f) (r := r) (n := n) (q := q) h.len (by omega) (by omega) hq
  have g' := fun q hq => gI_putR (L := M) (i := i) (e := e) (p := p) (f := f) (r := r) (n := n) (q := q) b.lenM (by omega) (by omega) hq
  refine ⟨by rw [putR_len]; exact b.lenM, fun j c j0 j8 c0 c4 => ?_, fun j j0 j8 => ?_, ?_⟩
  · rw [g _ (by omega), g' _ (by omega)]
    have := b.cell j c j0 j8 c0 c4
    by_cases hj : j = i
    · subst hj
      have : c = 0 ∨ c = 1 ∨ c = 2 ∨ c = 3 := by omega
      rcases this with rfl | rfl | rfl | rfl
      · rw [if_pos (by omega), if_pos (by omega)]
      · rw [if_neg (by omega), if_pos (by omega), if_neg (by omega), if_pos (by omega)]
      · rw [if_neg (by omega), if_neg (by omega), if_pos (by omega), if_neg (by omega), if_neg (by omega), if_pos (by omega)]
      · rw [if_neg (by omega), if_neg (by omega), if_neg (by omega), if_pos (by omega), if_neg (by omega), if_neg (by omega), if_neg (by omega), if_pos (by omega)]
    · rw [if_neg (by omega), if_neg (by omega), if_neg (by omega), if_neg (by omega), if_neg (by omega), if_neg (by omega), if_neg (by omega), if_neg (by omega), if_neg (by omega), if_neg (by omega), if_neg (by omega), if_neg (by omega)]; exact this
  · rw [g _ (by omega), g' _ (by omega)]
    by_cases hj : j = i
    · subst hj
      rw [if_neg (by omega), if_neg (by omega), if_neg (by omega), if_neg (by omega), if_pos (by omega), if_neg (by omega), if_neg (by omega), if_neg (by omega), if_neg (by omega), if_pos (by omega)]
    · rw [if_neg (by omega), if_neg (by omega), if_neg (by omega), if_neg (by omega), if_neg (by omega), if_neg (by omega), if_neg (by omega), if_neg (by omega), if_neg (by omega), if_neg (by omega), if_neg (by omega), if_neg (by omega)]
      exact b.time j j0 j8
  · rw [g _ (by omega), g' _ (by omega), if_neg (by omega), if_neg (by omega), if_neg (by omega), if_neg (by omega), if_neg (by omega), if_pos (by omega), if_neg (by omega), if_neg (by omega), if_neg (by omega), if_neg (by omega), if_neg (by omega), if_pos (by omega)]
theorem BR.room {L M : List Int} (b : BR L M) {p : Int} : ∃ i, 0 ≤ i ∧ i < 8 ∧ roomB L (baseB p) = 5 * i ∧ roomR M (p % 4 * 2) = i := by
  have hb : baseB p = p % 4 * 10 := rfl
  have f0 : 0 ≤ p % 4 * 2 := by omega
  have f7 : p % 4 * 2 + 1 < 8 := by omega
  have c0 := b.cell0 f0 (by omega)
  have c1 := b.cell0 (i := p % 4 * 2 + 1) (by omega) f7
  have t0 := b.time (p % 4 * 2) f0 (by omega)
  have t1 := b.time (p % 4 * 2 + 1) (by omega) f7
  rw [show 5 * (p % 4 * 2) = baseB p by omega] at c0 t0
  rw [show 5 * (p % 4 * 2 + 1) = baseB p + 5 by omega] at c1 t1
  rw [show (p % 4 * 2 + 1) * 4 = p % 4 * 2 * 4 + 4 by omega] at c1
  rw [show baseB p + 5 + 4 = baseB p + 9 by omega, show 32 + (p % 4 * 2 + 1) = 33 + p % 4 * 2 by omega] at t1
  unfold roomB roomR
  rw [c0, c1, t0, t1]
  by_cases h1 : gI M (p % 4 * 2 * 4) < 0
  · exact ⟨p % 4 * 2, by omega, by omega, by rw [if_pos h1]; omega, by rw [if_pos h1]⟩
  · rw [if_neg h1, if_neg h1]
    by_cases h2 : gI M (p % 4 * 2 * 4 + 4) < 0
    · exact ⟨p % 4 * 2 + 1, by omega, by omega, by rw [if_pos h2]; omega, by rw [if_pos h2]⟩
    · rw [if_neg h2, if_neg h2]
      by_cases h3 : gI M (33 + p % 4 * 2) < gI M (32 + p % 4 * 2)
      · exact ⟨p % 4 * 2 + 1, by omega, by omega, by rw [if_pos h3]; omega, by rw [if_pos h3]⟩
      · exact ⟨p % 4 * 2, by omega, by omega, by rw [if_neg h3]; omega, by rw [if_neg h3]⟩
theorem BR.place {L M : List Int} (b : BR L M) (h : WB L) (e p : Int) : ∃ i, 0 ≤ i ∧ i < 8 ∧ placeB L e p = 5 * i ∧ placeR M e p = i := by
  unfold placeB placeR
  rcases b.at h e p with ⟨h1, h2⟩ | ⟨i, i0, i8, h1, h2⟩
  · rw [if_pos h2, if_pos h1]; exact b.room
  · rw [if_neg (by omega), if_neg (by omega)]; exact ⟨i, i0, i8, h2, h1⟩
theorem BR.fill {L M : List Int} (b : BR L M) (h : WB L) (e p f r : Int) : BR (fillB L e p f r) (fillR M e p f r) := by
  unfold fillB fillR
  split
  · obtain ⟨i, i0, i8, h1, h2⟩ := b.place h e p
    rw [h1, h2, b.now]; exact b.put h i0 i8
  · exact b
theorem BR.flush {L M : List Int} (b : BR L M) (h : WB L) (e p : Int) : BR (flushB L e p) (flushR M e p) := by
  unfold flushB flushR
  rcases b.at h e p with ⟨h1, h2⟩ | ⟨i, i0, i8, h1, h2⟩
  · rw [if_pos h2, if_pos h1]; exact b
  · rw [if_neg (by omega), if_neg (by omega), h1, h2]; exact b.empty h i0 i8
theorem BR.find {L M : List Int} (b : BR L M) (h : WB L) (e p k : Int) (k0 : 0 ≤ k) (k4 : k < 4) : findB L e p k = findR M e p k ∧ (atB L e p ≠ -1 ↔ rfB M e p 8 ≠ -1) := by
  unfold findB findR
  rcases b.at h e p with ⟨h1, h2⟩ | ⟨i, i0, i8, h1, h2⟩
  · rw [if_pos h2, if_pos h1]; exact ⟨rfl, by rw [h1, h2]⟩
  · rw [if_neg (by omega), if_neg (by omega), h1, h2]; exact ⟨b.cell i k i0 i8 k0 k4, by omega⟩
theorem NB.empty {L : List Int} (nb : NB L) (h : L.length = 41) {i : Int} (i0 : 0 ≤ i) (i8 : i < 8) : NB (emptyB L (5 * i)) := by
  have g := fun q hq => gI_emptyB (L := L) (o := 5 * i) (q := q) h (by omega) (by omega) hq
  refine ⟨fun j j0 j8 hj => ?_⟩
  rw [g _ (by omega)] at hj
  rw [g _ (by omega), g _ (by omega), g _ (by omega), g _ (by omega)]
  by_cases hji : j = i
  · subst hji
    rw [if_pos rfl, if_neg (by omega), if_pos (by omega), if_neg (by omega), if_pos (by omega), if_neg (by omega), if_pos (by omega)]
    exact ⟨rfl, rfl, rfl, rfl⟩
  · rw [if_neg (by omega), if_neg (by omega)] at hj
    rw [if_neg (by omega), if_neg (by omega), if_neg (by omega), if_neg (by omega), if_neg (by omega), if_neg (by omega), if_neg (by omega), if_neg (by omega)]
    exact nb.none j j0 j8 hj
theorem NB.put {L : List Int} (nb : NB L) (h : L.length = 41) {i e p f r n : Int} (i0 : 0 ≤ i) (i8 : i < 8) (e0 : 0 ≤ e) : NB (putB L (5 * i) e p f r n) := by
  have g := fun q hq => gI_putB (L := L) (o := 5 * i) (e := e) (p := p) (f := f) (r := r) (n := n) (q := q) h (by omega) (by omega) hq
  refine ⟨fun j j0 j8 hj => ?_⟩
  have hji : j ≠ i := by
    intro c; subst c
    rw [g _ (by omega), if_pos rfl] at hj; omega
  have go : ∀ c : Int, 0 ≤ c → c < 4 → gI (putB L (5 * i) e p f r n) (5 * j + c) = gI L (5 * j + c) := by
    intro c c0 c4
    rw [g _ (by omega), if_neg (by omega), if_neg (by omega), if_neg (by omega), if_neg (by omega), if_neg (by omega), if_neg (by omega)]
  have g0 := go 0 (by omega) (by omega)
  rw [Int.add_zero] at g0
  rw [g0] at hj ⊢
  rw [go 1 (by omega) (by omega), go 2 (by omega) (by omega), go 3 (by omega) (by omega)]
  exact nb.none j j0 j8 hj
theorem NB.fill {L : List Int} (nb : NB L) (h : WB L) (e p f r : Int) : NB (fillB L e p f r) := by
  unfold fillB
  split
  · rename_i hk
    simp only [lineOk, Bool.and_eq_true, decide_eq_true_eq] at hk
    obtain ⟨i, i0, i8, hi, _⟩ := h.place (e := e) (p := p) hk.1 hk.2.2.1 hk.2.2.2.1
    rw [hi]
    exact nb.put h.len i0 i8 hk.1
  · exact nb
theorem NB.flush {L : List Int} (nb : NB L) (h : WB L) (e p : Int) : NB (flushB L e p) := by
  unfold flushB
  split
  · exact nb
  · rename_i ha
    obtain ⟨i, i0, i8, hi, _⟩ := h.at_some ha
    rw [hi]; exact nb.empty h.len i0 i8
theorem evictIn_iff {s w : Int} : evictIn s w = true ↔ 0 ≤ s ∧ s < 4 ∧ 0 ≤ w ∧ w < 2 := by simp [evictIn]
theorem BR.evict {L M : List Int} (b : BR L M) (h : WB L) (nb : NB L) (s w : Int) : evictOk L s w = evictROk M s w ∧ BR (evictB L s w) (evictR M s w) ∧ WB (evictB L s w) ∧ NB (evictB L s w) := by
  have ho : evictOk L s w = (evictIn s w && decide (0 ≤ gI L (s * 10 + w * 5))) := by simp [evictOk, evictIn, Bool.and_assoc]
  unfold evictB evictR evictROk
  rw [ho]
  cases hi : evictIn s w with
  | false => simp only [Bool.false_and, Bool.false_eq_true, if_false]; exact ⟨trivial, b, h, nb⟩
  | true =>
    rw [evictIn_iff] at hi
    have i0 : 0 ≤ s * 2 + w := by omega
    have i8 : s * 2 + w < 8 := by omega
    have e5 : s * 10 + w * 5 = 5 * (s * 2 + w) := by omega
    simp only [Bool.true_and, if_true, decide_eq_true_eq]
    rw [e5, b.cell0 i0 i8]
    refine ⟨rfl, ?_⟩
    by_cases hv : 0 ≤ gI M ((s * 2 + w) * 4)
    · rw [if_pos hv]
      exact ⟨b.empty h i0 i8, h.empty i0 i8, nb.empty h.len i0 i8⟩
    · rw [if_neg hv]
      refine ⟨?_, h, nb⟩
      have hn := nb.none _ i0 i8 (by rw [b.cell0 i0 i8]; omega)
      have g' := fun q hq => gI_noneR (L := M) (i := s * 2 + w) (q := q) b.lenM (by omega) (by omega) hq
      refine ⟨by rw [noneR_len]; exact b.lenM, fun j c j0 j8 c0 c4 => ?_, fun j j0 j8 => ?_, ?_⟩
      · rw [g' _ (by omega)]
        by_cases hj : j = s * 2 + w
        · subst hj
          have : c = 0 ∨ c = 1 ∨ c = 2 ∨ c = 3 := by omega
          rcases this with rfl | rfl | rfl | rfl
          · rw [if_pos (by omega), Int.add_zero]; exact hn.1
          · rw [if_neg (by omega), if_pos (by omega)]; exact hn.2.1
          · rw [if_neg (by omega), if_pos (by omega)]; exact hn.2.2.1
          · rw [if_neg (by omega), if_pos (by omega)]; exact hn.2.2.2
        · rw [if_neg (by omega), if_neg (by omega)]; exact b.cell j c j0 j8 c0 c4
      · rw [g' _ (by omega), if_neg (by omega), if_neg (by omega)]; exact b.time j j0 j8
      · rw [g' _ (by omega), if_neg (by omega), if_neg (by omega)]; exact b.now
theorem BR.ff {L M : List Int} (b : BR L M) (h : WB L) (nb : NB L) (f : Int) : ∀ k : Nat, k ≤ 8 → BR (ffB L f k).1 (ffR M f k).1 ∧ (ffB L f k).2 = (ffR M f k).2 ∧ NB (ffB L f k).1
  | 0, _ => ⟨b, rfl, nb⟩
  | k + 1, hk => by
    obtain ⟨ib, ic, inb⟩ := b.ff h nb f k (by omega)
    have st := h.ff f k (by omega)
    have hs := ffB_succ L f k
    have hs' := ffR_succ M f k
    have e0 : (k : Int) * 5 = 5 * k := Int.mul_comm _ _
    rw [e0] at hs
    generalize ffB L f k = q at ib ic inb st hs
    generalize ffR M f k = q' at ib ic hs'
    have ck := fun c c0 c4 => st.cell k c (by omega) (by omega) c0 c4
    have k0 := ck 0 (by omega) (by omega); rw [if_neg (by omega), Int.add_zero] at k0
    have k1 := ck 1 (by omega) (by omega); rw [if_neg (by omega)] at k1
    have k2 := ck 2 (by omega) (by omega); rw [if_neg (by omega)] at k2
    rw [← ib.cell0 (by omega) (by omega), ← ib.cell k 2 (by omega) (by omega) (by omega) (by omega), k0, k2] at hs'
    by_cases hc : 0 ≤ gI L (5 * k) ∧ gI L (5 * k + 2) = f
    · have hne : atB q.1 (gI L (5 * k)) (gI L (5 * k + 1)) = 5 * (k : Int) := st.wb.at_of (by omega) (by omega) hc.1 k0 k1
      rw [if_pos ⟨hc.1, hc.2, by omega⟩] at hs
      rw [if_pos hc] at hs'
      have hfl : flushB q.1 (gI L (5 * k)) (gI L (5 * k + 1)) = emptyB q.1 (5 * k) := by
        unfold flushB; rw [hne, if_neg (by omega)]
      rw [hfl] at hs
      rw [hs, hs']
      exact ⟨ib.empty st.wb (by omega) (by omega), by simp only; rw [ic], inb.empty st.wb.len (by omega) (by omega)⟩
    · rw [if_neg (fun c => hc ⟨c.1, c.2.1⟩)] at hs
      rw [if_neg hc] at hs'
      rw [hs, hs']
      exact ⟨ib, ic, inb⟩
structure TB (L M : List Int) : Prop where
  r : BR L M
  w : WB L
  n : NB L
theorem TB.fill {L M : List Int} (t : TB L M) (e p f r : Int) : TB (fillB L e p f r) (fillR M e p f r) := ⟨t.r.fill t.w e p f r, t.w.fill e p f r, t.n.fill t.w e p f r⟩
theorem TB.flush {L M : List Int} (t : TB L M) (e p : Int) : TB (flushB L e p) (flushR M e p) := ⟨t.r.flush t.w e p, t.w.flush e p, t.n.flush t.w e p⟩
theorem TB.evict {L M : List Int} (t : TB L M) (s w : Int) : TB (evictB L s w) (evictR M s w) := by
  have := t.r.evict t.w t.n s w
  exact ⟨this.2.1, this.2.2.1, this.2.2.2⟩
theorem TB.ff {L M : List Int} (t : TB L M) (f : Int) : TB (ffB L f 8).1 (ffR M f 8).1 ∧ (ffB L f 8).2 = (ffR M f 8).2 := by
  have := t.r.ff t.w t.n f 8 (Nat.le_refl 8)
  exact ⟨⟨this.1, (t.w.ff f 8 (Nat.le_refl 8)).wb, this.2.2⟩, this.2.1⟩
theorem TB.line {L M : List Int} (t : TB L M) {k c : Nat} (hk : k < 8) (hc : c < 4) : (linesB L).getD (k * 4 + c) 0 = gI M ((k : Int) * 4 + c) := by
  rw [linesB_at hk hc, Int.mul_comm]
  exact t.r.cell k c (by omega) (by omega) (by omega) (by omega)
theorem TB.clear {L M : List Int} (t : TB L M) : TB (clearB L) (noneR (noneR (noneR (noneR (noneR (noneR (noneR (noneR M 0) 1) 2) 3) 4) 5) 6) 7) := by
  have one : ∀ {L M : List Int} (i : Int), TB L M → 0 ≤ i → i < 8 → TB (emptyB L (5 * i)) (noneR M i) := fun i t i0 i8 => ⟨t.r.empty t.w i0 i8, t.w.empty i0 i8, t.n.empty t.w.len i0 i8⟩
  have t0 := one 0 t (by omega) (by omega)
  have t1 := one 1 t0 (by omega) (by omega)
  have t2 := one 2 t1 (by omega) (by omega)
  have t3 := one 3 t2 (by omega) (by omega)
  have t4 := one 4 t3 (by omega) (by omega)
  have t5 := one 5 t4 (by omega) (by omega)
  have t6 := one 6 t5 (by omega) (by omega)
  exact one 7 t6 (by omega) (by omega)
theorem TB.start : TB (clearB (List.replicate 41 0)) [-1, 0, 0, 0, -1, 0, 0, 0, -1, 0, 0, 0, -1, 0, 0, 0, -1, 0, 0, 0, -1, 0, 0, 0, -1, 0, 0, 0, -1, 0, 0, 0, 0, 0, 0, 0, 0, 0, 0, 0, 0] := by
  have e : clearB (List.replicate 41 0) = [-1, 0, 0, 0, 0, -1, 0, 0, 0, 0, -1, 0, 0, 0, 0, -1, 0, 0, 0, 0, -1, 0, 0, 0, 0, -1, 0, 0, 0, 0, -1, 0, 0, 0, 0, -1, 0, 0, 0, 0, 0] := by decide
  refine ⟨?_, WB.start, ?_⟩
  · rw [e]
    refine ⟨rfl, fun i c i0 i8 c0 c4 => ?_, fun i i0 i8 => ?_, rfl⟩
    · have h1 : i = 0 ∨ i = 1 ∨ i = 2 ∨ i = 3 ∨ i = 4 ∨ i = 5 ∨ i = 6 ∨ i = 7 := by omega
      have h2 : c = 0 ∨ c = 1 ∨ c = 2 ∨ c = 3 := by omega
      rcases h1 with rfl | rfl | rfl | rfl | rfl | rfl | rfl | rfl <;> rcases h2 with rfl | rfl | rfl | rfl <;> rfl
    · have h1 : i = 0 ∨ i = 1 ∨ i = 2 ∨ i = 3 ∨ i = 4 ∨ i = 5 ∨ i = 6 ∨ i = 7 := by omega
      rcases h1 with rfl | rfl | rfl | rfl | rfl | rfl | rfl | rfl <;> rfl
  · rw [e]
    refine ⟨fun i i0 i8 _ => ?_⟩
    have h1 : i = 0 ∨ i = 1 ∨ i = 2 ∨ i = 3 ∨ i = 4 ∨ i = 5 ∨ i = 6 ∨ i = 7 := by omega
    rcases h1 with rfl | rfl | rfl | rfl | rfl | rfl | rfl | rfl <;> exact ⟨rfl, rfl, rfl, rfl⟩
end Go.Sx
/- What a walk computes: a buffer's list, a table's list. -/
set_option linter.unusedVariables false
namespace Go.Sx
def hitW (L : List Int) (e p k : Int) : Bool := decide (atB L e p ≠ -1) && letsB (findB L e p 3) k
def tabW (T : List Int) (p k : Int) : Bool := letsB (atV T p 2) k
def walkOk (L T : List Int) (e p k : Int) : Bool := hitW L e p k || tabW T p k
def walkV (L T : List Int) (e p k : Int) (i : Nat) : Int := if hitW L e p k then findB L e p i else if tabW T p k then ([e, p, atV T p 0, atV T p 2] : List Int).getD i 0 else 0
def walkB (L T : List Int) (e p k : Int) : List Int := if hitW L e p k then L else if tabW T p k then fillB L e p (atV T p 0) (atV T p 2) else flushB L e p
structure TV (T : List Int) : Prop where
  len : T.length = 24
  ok : ∀ p : Int, 0 ≤ p → p < 8 → tG T p 2 ≠ 0 → 0 ≤ tG T p 0 ∧ tG T p 0 < 16 ∧ 1 ≤ tG T p 2 ∧ tG T p 2 ≤ 3
theorem TV.start : TV (List.replicate 24 0) := by
  refine ⟨by simp, fun p h0 h8 h => absurd ?_ h⟩
  unfold tG
  rw [List.getD_eq_getElem?_getD, List.getElem?_replicate]
  split <;> rfl
theorem tG_int {T : List Int} {p f s r q : Int} {k : Nat} (hT : T.length = 24) (h0 : 0 ≤ p) (h8 : p < 8) (q0 : 0 ≤ q) (hk : k < 3) :
    tG (tSet3 T p f s r) q k = if q = p then (if k = 0 then f else if k = 1 then s else r) else tG T q k := by
  obtain ⟨n, rfl⟩ : ∃ n : Nat, q = n := ⟨q.toNat, by omega⟩
  exact tG_set3 hT h0 h8 hk
theorem TV.ins {T : List Int} (h : TV T) (p f s r : Int) : TV (insL T p f s r) := by
  unfold insL
  split
  · rename_i hi
    unfold insE at hi
    split at hi
    · omega
    · rename_i hc
      simp only [Bool.or_eq_true, Bool.not_eq_true', decide_eq_true_eq, not_or, Bool.not_eq_false, pageOk, Bool.and_eq_true] at hc
      obtain ⟨⟨hok, hr⟩, h0, h8⟩ := hc
      rw [pteOk_iff] at hok
      refine ⟨by rw [tSet3_len]; exact h.len, fun q q0 q8 hq => ?_⟩
      have e2 : tG (tSet3 T p f s r) q 2 = _ := tG_int (k := 2) h.len h0 h8 q0 (by omega)
      have e0 : tG (tSet3 T p f s r) q 0 = _ := tG_int (k := 0) h.len h0 h8 q0 (by omega)
      rw [e2] at hq ⊢
      rw [e0]
      by_cases hp : q = p
      · simp only [if_pos hp] at hq ⊢
        simp at hq ⊢
        omega
      · simp only [if_neg hp] at hq ⊢
        exact h.ok q q0 q8 hq
  · exact h
theorem TV.rem {T : List Int} (h : TV T) (p : Int) : TV (remL T p) := by
  unfold remL
  split
  · rename_i hi
    unfold remE at hi
    split at hi
    · omega
    · rename_i hc
      simp only [Bool.not_eq_true', Bool.not_eq_false, pageOk, Bool.and_eq_true, decide_eq_true_eq] at hc
      obtain ⟨h0, h8⟩ := hc
      refine ⟨by rw [tSet3_len]; exact h.len, fun q q0 q8 hq => ?_⟩
      have e2 : tG (tSet3 T p 0 0 0) q 2 = _ := tG_int (k := 2) h.len h0 h8 q0 (by omega)
      have e0 : tG (tSet3 T p 0 0 0) q 0 = _ := tG_int (k := 0) h.len h0 h8 q0 (by omega)
      rw [e2] at hq ⊢
      rw [e0]
      by_cases hp : q = p
      · simp only [if_pos hp] at hq
        simp at hq
      · simp only [if_neg hp] at hq ⊢
        exact h.ok q q0 q8 hq
  · exact h
theorem find_fill {L : List Int} (h : WB L) {e p f r : Int} (e0 : 0 ≤ e) (e4 : e < 4) (p0 : 0 ≤ p) (p8 : p < 8) (f0 : 0 ≤ f) (f16 : f < 16) (r1 : 1 ≤ r) (r3 : r ≤ 3) :
    atB (fillB L e p f r) e p ≠ -1 ∧ findB (fillB L e p f r) e p 0 = e ∧ findB (fillB L e p f r) e p 1 = p ∧ findB (fillB L e p f r) e p 2 = f ∧ findB (fillB L e p f r) e p 3 = r := by
  have hl : lineOk e p f r = true := by simp [lineOk, rightsB]; omega
  obtain ⟨i, i0, i8, hi, _, _⟩ := h.place e0 p0 p8
  have hW := h.fill e p f r
  have hf : fillB L e p f r = putB L (5 * i) e p f r (IntKind.wrap .i64 (gI L 40 + 1)) := by unfold fillB; rw [if_pos hl, hi]
  have g := fun q hq => gI_putB (L := L) (o := 5 * i) (e := e) (p := p) (f := f) (r := r) (n := IntKind.wrap .i64 (gI L 40 + 1)) (q := q) h.len (by omega) (by omega) hq
  rw [← hf] at g
  have g0 : gI (fillB L e p f r) (5 * i) = e := by rw [g _ (by omega), if_pos rfl]
  have g1 : gI (fillB L e p f r) (5 * i + 1) = p := by rw [g _ (by omega), if_neg (by omega), if_pos rfl]
  have ha := hW.at_of i0 i8 e0 g0 g1
  have hne : ¬ (5 * i = -1) := by omega
  refine ⟨by rw [ha]; exact hne, ?_, ?_, ?_, ?_⟩ <;> unfold findB <;> rw [ha, if_neg hne]
  · rw [Int.add_zero]; exact g0
  · exact g1
  · rw [g _ (by omega), if_neg (by omega), if_neg (by omega), if_pos rfl]
  · rw [g _ (by omega), if_neg (by omega), if_neg (by omega), if_neg (by omega), if_pos rfl]
theorem find_flush {L : List Int} (h : WB L) (e p : Int) : atB (flushB L e p) e p = -1 := by
  cases Decidable.em (atB (flushB L e p) e p = -1) with
  | inl h => exact h
  | inr hne =>
    obtain ⟨i, i0, i8, hi, e0, g0, g1, _⟩ := (h.flush e p).at_some hne
    unfold flushB at g0 g1
    split at g0
    · rename_i ha
      rw [if_pos ha] at g1
      have := h.at_of i0 i8 e0 g0 g1
      omega
    · rename_i ha
      rw [if_neg ha] at g1
      obtain ⟨j, j0, j8, hj, _, k0, k1, _⟩ := h.at_some ha
      rw [hj, gI_emptyB h.len (by omega) (by omega) (by omega)] at g0 g1
      by_cases hij : i = j
      · subst hij; rw [if_pos rfl] at g0; omega
      · rw [if_neg (by omega), if_neg (by omega)] at g0 g1
        have := h.at_of i0 i8 e0 g0 g1
        omega
theorem letsB_in {r k : Int} (h : letsB r k = true) : 1 ≤ r ∧ r ≤ 3 := by
  have := @letsB_out r k
  cases Decidable.em (r < 1 ∨ 3 < r) with
  | inl c => rw [this c] at h; cases h
  | inr c => omega
theorem walk_cases {L T : List Int} (h : WB L) (t : TV T) {e p : Int} (k : Int) (e0 : 0 ≤ e) (e4 : e < 4) (p0 : 0 ≤ p) (p8 : p < 8) :
    (hitW L e p k = true ∧ walkOk L T e p k = true ∧ walkB L T e p k = L ∧ ∀ i : Nat, walkV L T e p k i = findB L e p i) ∨
    (hitW L e p k = false ∧ tabW T p k = true ∧ walkOk L T e p k = true ∧ atOk T p = true ∧ walkV L T e p k 0 = e ∧ walkV L T e p k 1 = p ∧ walkV L T e p k 2 = atV T p 0 ∧ walkV L T e p k 3 = atV T p 2 ∧
      walkB L T e p k = fillB L e p (atV T p 0) (atV T p 2) ∧ 0 ≤ atV T p 0 ∧ atV T p 0 < 16 ∧
      atB (walkB L T e p k) e p ≠ -1 ∧ findB (walkB L T e p k) e p 0 = e ∧ findB (walkB L T e p k) e p 1 = p ∧ findB (walkB L T e p k) e p 2 = atV T p 0 ∧ findB (walkB L T e p k) e p 3 = atV T p 2) ∨
    (hitW L e p k = false ∧ tabW T p k = false ∧ walkOk L T e p k = false ∧ (∀ i : Nat, walkV L T e p k i = 0) ∧ walkB L T e p k = flushB L e p ∧ atB (walkB L T e p k) e p = -1) := by
  unfold walkOk walkB walkV
  cases hh : hitW L e p k with
  | true => left; simp
  | false =>
    right
    cases ht : tabW T p k with
    | true =>
      left
      have hr := letsB_in (show letsB (atV T p 2) k = true from ht)
      have hok : atOk T p = true := by
        cases ho : atOk T p with
        | true => rfl
        | false => unfold atV at hr; rw [ho] at hr; simp at hr
      have h2 : atV T p 2 = tG T p 2 := by unfold atV; rw [if_pos hok]
      have h0 : atV T p 0 = tG T p 0 := by unfold atV; rw [if_pos hok]
      have ho := t.ok p p0 p8 (by rw [← h2]; omega)
      rw [← h0, ← h2] at ho
      have ff := find_fill h e0 e4 p0 p8 ho.1 ho.2.1 ho.2.2.1 ho.2.2.2
      simp only [Bool.false_or, Bool.false_eq_true, if_false, if_true, hok]
      exact ⟨by first | trivial | rfl, by first | trivial | rfl, by first | trivial | rfl, by first | trivial | rfl, by first | trivial | rfl, by first | trivial | rfl, by first | trivial | rfl, by first | trivial | rfl, by first | trivial | rfl, ho.1, ho.2.1, ff⟩
    | false =>
      right
      simp only [Bool.or_false, Bool.false_eq_true, if_false]
      exact ⟨by first | trivial | rfl, by first | trivial | rfl, by first | trivial | rfl, (by intros; first | trivial | rfl), by first | trivial | rfl, find_flush h e p⟩
theorem walk_wb {L T : List Int} (h : WB L) (e p k : Int) : WB (walkB L T e p k) := by
  unfold walkB
  split
  · exact h
  · split
    · exact h.fill _ _ _ _
    · exact h.flush _ _
end Go.Sx
/- What loads and stores by a buffer, a table and a memory compute. -/
set_option linter.unusedVariables false
namespace Go.Sx
def inM (K f a : Int) : Bool := decide (0 ≤ f) && (decide (f < K) && (decide (0 ≤ a) && decide (a < 16)))
def wordM (Ls : List (List Int)) (K f a : Int) : Int := if inM K f a then (Ls.getD f.toNat []).getD a.toNat 0 else 0
def touchV (Ls : List (List Int)) (K f c0 a : Int) : Int := if c0 = 20 ∨ c0 = 22 ∨ c0 = 23 then wordM Ls K f a else 0
def touchL (Ls : List (List Int)) (K f c0 a c3 c4 : Int) (j : Nat) : List Int :=
  let L := Ls.getD j []
  if inM K f a ∧ f = j then
    (if c0 = 21 then L.set a.toNat c3 else if c0 = 22 then (if L.getD a.toNat 0 = c3 then L.set a.toNat c4 else L) else if c0 = 23 then L.set a.toNat (IntKind.wrap .u64 (L.getD a.toNat 0 + c3)) else L)
  else L
def doE (env c0 c1 c2 c3 c4 : Int) : Int := if env < 0 ∨ 4 ≤ env then 10 else if c0 < 20 ∨ 23 < c0 then 1 else checkN c0 c1 c2 c3 c4 4
def doOk (B T : List Int) (env c0 c1 c2 c3 c4 : Int) : Bool := decide (doE env c0 c1 c2 c3 c4 = 0) && walkOk B T env c1 c0
def doR (B T : List Int) (env c0 c1 c2 c3 c4 : Int) : Int := if doE env c0 c1 c2 c3 c4 ≠ 0 then doE env c0 c1 c2 c3 c4 else if walkOk B T env c1 c0 then 0 else 7
def doV (B T : List Int) (Ls : List (List Int)) (K env c0 c1 c2 c3 c4 : Int) : Int := if doOk B T env c0 c1 c2 c3 c4 then touchV Ls K (walkV B T env c1 c0 2) c0 c2 else 0
def doW (B T : List Int) (env c0 c1 c2 c3 c4 : Int) (i : Nat) : Int := if doOk B T env c0 c1 c2 c3 c4 then walkV B T env c1 c0 i else 0
def doB (B T : List Int) (env c0 c1 c2 c3 c4 : Int) : List Int := if doE env c0 c1 c2 c3 c4 = 0 then walkB B T env c1 c0 else B
def doM (B T : List Int) (Ls : List (List Int)) (K env c0 c1 c2 c3 c4 : Int) (j : Nat) : List Int := if doOk B T env c0 c1 c2 c3 c4 then touchL Ls K (walkV B T env c1 c0 2) c0 c2 c3 c4 j else Ls.getD j []
theorem range1 {α : Type} (f : Nat → α) : (List.range 1).map f = [f 0] := rfl
theorem range2 {α : Type} (f : Nat → α) : (List.range 2).map f = [f 0, f 1] := rfl
theorem range16 {α : Type} (f : Nat → α) : (List.range 16).map f = [f 0, f 1, f 2, f 3, f 4, f 5, f 6, f 7, f 8, f 9, f 10, f 11, f 12, f 13, f 14, f 15] := rfl
theorem range3 {α : Type} (f : Nat → α) : (List.range 3).map f = [f 0, f 1, f 2] := rfl
section
variable {B T : List Int} {Ls : List (List Int)} {K env c0 c1 c2 c3 c4 : Int}
theorem do_fail (h : doE env c0 c1 c2 c3 c4 ≠ 0) : doR B T env c0 c1 c2 c3 c4 = doE env c0 c1 c2 c3 c4 ∧ doV B T Ls K env c0 c1 c2 c3 c4 = 0 ∧ (∀ i, doW B T env c0 c1 c2 c3 c4 i = 0) ∧ doB B T env c0 c1 c2 c3 c4 = B ∧ ∀ j, doM B T Ls K env c0 c1 c2 c3 c4 j = Ls.getD j [] := by
  have hk : doOk B T env c0 c1 c2 c3 c4 = false := by unfold doOk; rw [decide_eq_false h, Bool.false_and]
  refine ⟨by unfold doR; rw [if_pos h], by unfold doV; rw [hk]; rfl, fun i => by unfold doW; rw [hk]; rfl, by unfold doB; rw [if_neg h], fun j => by unfold doM; rw [hk]; rfl⟩
theorem do_fault (h : doE env c0 c1 c2 c3 c4 = 0) (hw : walkOk B T env c1 c0 = false) : doR B T env c0 c1 c2 c3 c4 = 7 ∧ doV B T Ls K env c0 c1 c2 c3 c4 = 0 ∧ (∀ i, doW B T env c0 c1 c2 c3 c4 i = 0) ∧ doB B T env c0 c1 c2 c3 c4 = walkB B T env c1 c0 ∧ ∀ j, doM B T Ls K env c0 c1 c2 c3 c4 j = Ls.getD j [] := by
  have hk : doOk B T env c0 c1 c2 c3 c4 = false := by unfold doOk; rw [hw, Bool.and_false]
  refine ⟨by unfold doR; rw [if_neg (fun c => c h), hw]; rfl, by unfold doV; rw [hk]; rfl, fun i => by unfold doW; rw [hk]; rfl, by unfold doB; rw [if_pos h], fun j => by unfold doM; rw [hk]; rfl⟩
theorem do_ok (h : doE env c0 c1 c2 c3 c4 = 0) (hw : walkOk B T env c1 c0 = true) : doR B T env c0 c1 c2 c3 c4 = 0 ∧ doV B T Ls K env c0 c1 c2 c3 c4 = touchV Ls K (walkV B T env c1 c0 2) c0 c2 ∧ (∀ i, doW B T env c0 c1 c2 c3 c4 i = walkV B T env c1 c0 i) ∧ doB B T env c0 c1 c2 c3 c4 = walkB B T env c1 c0 ∧ ∀ j, doM B T Ls K env c0 c1 c2 c3 c4 j = touchL Ls K (walkV B T env c1 c0 2) c0 c2 c3 c4 j := by
  have hk : doOk B T env c0 c1 c2 c3 c4 = true := by unfold doOk; rw [decide_eq_true h, hw]; rfl
  refine ⟨by unfold doR; rw [if_neg (fun c => c h), hw]; rfl, by unfold doV; rw [hk]; rfl, fun i => by unfold doW; rw [hk]; rfl, by unfold doB; rw [if_pos h], fun j => by unfold doM; rw [hk]; rfl⟩
end
theorem user_kind (w : Int) : (20 ≤ callN w → 20 ≤ w ∧ w ≤ 23 ∧ callN w = w) ∧ (¬ 20 ≤ callN w → w < 20 ∨ 23 < w) := by
  unfold callN
  by_cases h : callOk w = true
  · rw [if_pos h]
    simp [callOk] at h
    omega
  · rw [if_neg h]
    simp [callOk] at h
    omega
theorem argsB_user {k a b c d e : Int} (h1 : 20 ≤ k) : argsB k a b c d e = (decide (a < 8) && decide (b < 16)) := by
  have n1 : ¬ (k = 1 ∨ k = 4 ∨ k = 5) := by omega
  have n2 : ¬ k = 2 := by omega
  have n3 : ¬ k = 3 := by omega
  have n6 : ¬ k = 6 := by omega
  have n7 : ¬ k = 7 := by omega
  have n8 : ¬ k = 8 := by omega
  have n9 : ¬ k = 9 := by omega
  unfold argsB
  rw [if_neg n1, if_neg n2, if_neg n3, if_neg n6, if_neg n7, if_neg n8, if_neg n9, if_pos h1]
theorem user_args {k a b c d e : Int} (h1 : 20 ≤ k) (h2 : k ≤ 23) (h : checkN k a b c d e = 0) : a < 8 ∧ b < 16 := by
  unfold checkN at h
  have hk : callOk k = true := by simp [callOk]; omega
  rw [if_pos hk, argsB_user h1] at h
  by_cases c : (decide (a < 8) && decide (b < 16)) = true
  · simpa using c
  · rw [if_neg c] at h; omega
theorem user_fine {k a b c d e : Int} (h1 : 20 ≤ k) (h2 : k ≤ 23) (ha : a < 8) (hb : b < 16) : checkN k a b c d e = 0 := by
  unfold checkN
  have hk : callOk k = true := by simp [callOk]; omega
  rw [if_pos hk, argsB_user h1, decide_eq_true ha, decide_eq_true hb]
  rfl
theorem doE_fine {env k a b c d : Int} (e0 : 0 ≤ env) (e4 : env < 4) (h1 : 20 ≤ k) (h2 : k ≤ 23) (ha : a < 8) (hb : b < 16) : doE env k a b c d = 0 := by
  unfold doE
  rw [if_neg (by omega), if_neg (by omega)]
  exact user_fine h1 h2 ha hb
end Go.Sx
/- Buffers and tables of a few entries: what is left of their lengths. -/
set_option linter.unusedVariables false
namespace Go.Sx
theorem touchL_len {Ls : List (List Int)} {K f c0 a c3 c4 : Int} {j : Nat} : (touchL Ls K f c0 a c3 c4 j).length = (Ls.getD j []).length := by
  unfold touchL
  dsimp only
  repeat' split
  all_goals simp
end Go.Sx
/- A load, a store in a memory of many frames. -/
set_option linter.unusedVariables false
namespace Go.Sx
section
variable {Ls : List (List Int)} {K : Nat} {f a c3 c4 : Int} {c0 : Int}
theorem map_same (h : Ls.length = K) {g : Nat → List Int} (hg : ∀ j, j < K → g j = Ls.getD j []) : Ls = (List.range K).map g := by
  apply List.ext_getElem?
  intro i
  by_cases hi : i < K
  · rw [List.getElem?_map, List.getElem?_range hi, Option.map_some, hg i hi, List.getD_eq_getElem?_getD, List.getElem?_eq_getElem (by omega)]; rfl
  · rw [List.getElem?_eq_none (by omega), List.getElem?_eq_none (by simp; omega)]
theorem map_set (h : Ls.length = K) {g : Nat → List Int} {j : Nat} {y : List Int} (hj : j < K) (hy : g j = y) (hg : ∀ i, i < K → i ≠ j → g i = Ls.getD i []) : Ls.set j y = (List.range K).map g := by
  apply List.ext_getElem?
  intro i
  by_cases hi : i < K
  · rw [List.getElem?_map, List.getElem?_range hi, Option.map_some]
    by_cases hij : i = j
    · subst hij
      rw [List.getElem?_set_self (by omega), hy]
    · rw [List.getElem?_set_ne (fun c => hij c.symm), hg i hi hij, List.getD_eq_getElem?_getD, List.getElem?_eq_getElem (by omega)]; rfl
  · rw [List.getElem?_eq_none (by simp; omega), List.getElem?_eq_none (by simp; omega)]
theorem touchL_ne {i : Nat} (h : f ≠ i) : touchL Ls K f c0 a c3 c4 i = Ls.getD i [] := by
  unfold touchL; dsimp only; rw [if_neg (fun c => h c.2)]
theorem tOut (hl : Ls.length = K) (h : inM K f a = false) : [(0 : Int)] = [touchV Ls K f c0 a] ∧ Ls = (List.range K).map fun j => touchL Ls K f c0 a c3 c4 j := by
  refine ⟨by unfold touchV wordM; rw [h]; simp, map_same hl fun j _ => ?_⟩
  unfold touchL; dsimp only; rw [h]; simp
variable (hl : Ls.length = K) {j : Nat} (hj : j < K) (hf : f = (j : Int)) (a0 : 0 ≤ a) (a16 : a < 16)
include hj hf a0 a16
theorem inM_at : inM K f a = true := by subst hf; simp [inM]; omega
theorem word_at : wordM Ls K f a = (Ls.getD j []).getD a.toNat 0 := by
  unfold wordM; rw [if_pos (inM_at hj hf a0 a16), hf, Int.toNat_natCast]
include hl
theorem tLd {x : Int} (hx : x = (Ls.getD j []).getD a.toNat 0) : [x] = [touchV Ls K f 20 a] ∧ Ls = (List.range K).map fun j => touchL Ls K f 20 a c3 c4 j := by
  refine ⟨by unfold touchV; rw [if_pos (.inl rfl), word_at hj hf a0 a16, hx], map_same hl fun j _ => ?_⟩
  unfold touchL; dsimp only; simp
theorem tSt {y : List Int} (hy : y = (Ls.getD j []).set a.toNat c3) : [(0 : Int)] = [touchV Ls K f 21 a] ∧ Ls.set j y = (List.range K).map fun j => touchL Ls K f 21 a c3 c4 j := by
  refine ⟨by unfold touchV; simp, map_set hl hj ?_ fun i hi hij => touchL_ne (by omega)⟩
  unfold touchL; dsimp only; rw [if_pos ⟨inM_at hj hf a0 a16, hf⟩, hy]; simp
theorem tCasY {x : Int} {y : List Int} (hx : x = (Ls.getD j []).getD a.toNat 0) (hc : c3 = x) (hy : y = (Ls.getD j []).set a.toNat c4) : [x] = [touchV Ls K f 22 a] ∧ Ls.set j y = (List.range K).map fun j => touchL Ls K f 22 a c3 c4 j := by
  refine ⟨by unfold touchV; rw [if_pos (by simp), word_at hj hf a0 a16, hx], map_set hl hj ?_ fun i hi hij => touchL_ne (by omega)⟩
  unfold touchL; dsimp only; rw [if_pos ⟨inM_at hj hf a0 a16, hf⟩, if_neg (by decide), if_pos rfl, if_pos (by rw [hc, hx]), hy]
theorem tCasN {x : Int} (hx : x = (Ls.getD j []).getD a.toNat 0) (hc : c3 ≠ x) : [x] = [touchV Ls K f 22 a] ∧ Ls = (List.range K).map fun j => touchL Ls K f 22 a c3 c4 j := by
  refine ⟨by unfold touchV; rw [if_pos (by simp), word_at hj hf a0 a16, hx], map_same hl fun i _ => ?_⟩
  by_cases hij : i = j
  · subst hij
    unfold touchL; dsimp only; rw [if_pos ⟨inM_at hj hf a0 a16, hf⟩, if_neg (by decide), if_pos rfl, if_neg (fun c => hc (by rw [hx, c]))]
  · exact touchL_ne (by omega)
theorem tAdd {x z : Int} {y : List Int} (hx : x = (Ls.getD j []).getD a.toNat 0) (hz : z = IntKind.wrap .u64 (x + c3)) (hy : y = (Ls.getD j []).set a.toNat z) : [x] = [touchV Ls K f 23 a] ∧ Ls.set j y = (List.range K).map fun j => touchL Ls K f 23 a c3 c4 j := by
  refine ⟨by unfold touchV; rw [if_pos (by simp), word_at hj hf a0 a16, hx], map_set hl hj ?_ fun i hi hij => touchL_ne (by omega)⟩
  unfold touchL; dsimp only; rw [if_pos ⟨inM_at hj hf a0 a16, hf⟩, if_neg (by decide), if_neg (by decide), if_pos rfl, hy, hz, hx]
end
theorem tNone {Ls : List (List Int)} {K : Nat} {f a c0 c3 c4 : Int} (hl : Ls.length = K) (h : c0 < 20 ∨ 23 < c0) : [(0 : Int)] = [touchV Ls K f c0 a] ∧ Ls = (List.range K).map fun j => touchL Ls K f c0 a c3 c4 j := by
  refine ⟨by unfold touchV; rw [if_neg (by omega)], map_same hl fun j _ => ?_⟩
  unfold touchL; dsimp only
  rw [if_neg (by omega : ¬ c0 = 21), if_neg (by omega : ¬ c0 = 22), if_neg (by omega : ¬ c0 = 23)]
  simp
end Go.Sx
/- The document's kernel's memory: 256 words behind 259 other numbers; it goes with a memory of sixteen frames. -/
set_option linter.unusedVariables false
namespace Go.Sx
def idK (f a : Int) : Nat := (259 + f * 16 + a).toNat
def wkV (L : List Int) (f k a : Int) : Int := if k = 21 then 0 else L.getD (idK f a) 0
def wkL (L : List Int) (f k a c3 c4 : Int) : List Int :=
  if k = 21 then L.set (idK f a) c3 else if k = 22 then (if L.getD (idK f a) 0 = c3 then L.set (idK f a) c4 else L) else if k = 23 then L.set (idK f a) (IntKind.wrap .u64 (L.getD (idK f a) 0 + c3)) else L
structure MR (Ms : List (List Int)) (L : List Int) : Prop where
  num : Ms.length = 16
  len : ∀ j : Nat, j < 16 → (Ms.getD j []).length = 16
  lenK : L.length = 515
  eq : ∀ f a : Nat, f < 16 → a < 16 → (Ms.getD f []).getD a 0 = L.getD (259 + 16 * f + a) 0
theorem getD_map_range {g : Nat → List Int} {j : Nat} (h : j < 16) : ((List.range 16).map g).getD j [] = g j := by
  rw [List.getD_eq_getElem?_getD, List.getElem?_map, List.getElem?_range h]; rfl
theorem getD_set_at {L : List Int} {n q : Nat} {v : Int} (hn : n < L.length) : (L.set n v).getD q 0 = if q = n then v else L.getD q 0 := by
  simp only [List.getD_eq_getElem?_getD, List.getElem?_set]
  by_cases h : n = q
  · subst h; simp [hn]
  · have h' : ¬ q = n := fun c => h c.symm
    simp [h, h']
theorem MR.word {Ms : List (List Int)} {L : List Int} (h : MR Ms L) {f k a : Int} (f0 : 0 ≤ f) (f16 : f < 16) (a0 : 0 ≤ a) (a16 : a < 16) (hk : k = 20 ∨ k = 21 ∨ k = 22 ∨ k = 23) : touchV Ms 16 f k a = wkV L f k a := by
  obtain ⟨f, rfl⟩ : ∃ n : Nat, f = n := ⟨f.toNat, by omega⟩
  obtain ⟨a, rfl⟩ : ∃ n : Nat, a = n := ⟨a.toNat, by omega⟩
  have hw := word_at (Ls := Ms) (K := 16) (j := f) (f := (f : Int)) (a := (a : Int)) (by omega) rfl (by omega) (by omega)
  have he := h.eq f a (by omega) (by omega)
  have hi : idK f a = 259 + 16 * f + a := by unfold idK; omega
  unfold touchV wkV
  rw [show ((16 : Nat) : Int) = 16 from rfl] at hw
  rw [hw, Int.toNat_natCast, he, hi]
  rcases hk with rfl | rfl | rfl | rfl <;> simp
theorem MR.touch {Ms : List (List Int)} {L : List Int} (h : MR Ms L) {f k a c3 c4 : Int} (f0 : 0 ≤ f) (f16 : f < 16) (a0 : 0 ≤ a) (a16 : a < 16) (hk : k = 20 ∨ k = 21 ∨ k = 22 ∨ k = 23) :
    MR ((List.range 16).map fun j => touchL Ms 16 f k a c3 c4 j) (wkL L f k a c3 c4) := by
  obtain ⟨f, rfl⟩ : ∃ n : Nat, f = n := ⟨f.toNat, by omega⟩
  obtain ⟨a, rfl⟩ : ∃ n : Nat, a = n := ⟨a.toNat, by omega⟩
  have hi : idK f a = 259 + 16 * f + a := by unfold idK; omega
  have hlK := h.lenK
  have he := h.eq f a (by omega) (by omega)
  have hin : inM 16 (f : Int) (a : Int) = true := inM_at (K := 16) (j := f) (by omega) rfl (by omega) (by omega)
  have hlf := h.len f (by omega)
  have upd : ∀ y : Int, ∀ g a' : Nat, g < 16 → a' < 16 → (if (f : Int) = (g : Int) then (Ms.getD g []).set a y else Ms.getD g []).getD a' 0 = (L.set (259 + 16 * f + a) y).getD (259 + 16 * g + a') 0 := by
    intro y g a' hg ha'
    rw [getD_set_at (by omega)]
    by_cases hfg : (f : Int) = (g : Int)
    · have : f = g := by omega
      subst this
      rw [if_pos rfl, getD_set_at (by omega)]
      by_cases haa : a' = a
      · rw [if_pos haa, if_pos (by omega)]
      · rw [if_neg haa, if_neg (by omega)]; exact h.eq f a' (by omega) ha'
    · rw [if_neg hfg, if_neg (by omega)]; exact h.eq g a' hg ha'
  refine ⟨by simp, fun j hj => by rw [getD_map_range hj, touchL_len]; exact h.len j hj, ?_, fun g a' hg ha' => ?_⟩
  · unfold wkL
    repeat' split
    all_goals simp [hlK]
  · rw [getD_map_range hg]
    unfold touchL wkL
    dsimp only
    rw [hi, Int.toNat_natCast]
    by_cases hfg : (f : Int) = (g : Int)
    · have hfg' : f = g := by omega
      subst hfg'
      rw [if_pos ⟨hin, rfl⟩]
      rcases hk with rfl | rfl | rfl | rfl
      · rw [if_neg (by decide : ¬ (20 : Int) = 21), if_neg (by decide : ¬ (20 : Int) = 22), if_neg (by decide : ¬ (20 : Int) = 23), if_neg (by decide : ¬ (20 : Int) = 21), if_neg (by decide : ¬ (20 : Int) = 22), if_neg (by decide : ¬ (20 : Int) = 23)]
        exact h.eq f a' (by omega) ha'
      · rw [if_pos rfl, if_pos rfl]
        have := upd c3 f a' (by omega) ha'
        rw [if_pos rfl] at this; exact this
      · rw [if_neg (by decide : ¬ (22 : Int) = 21), if_pos (rfl : (22 : Int) = 22), he, if_neg (by decide : ¬ (22 : Int) = 21), if_pos (rfl : (22 : Int) = 22)]
        by_cases c : L.getD (259 + 16 * f + a) 0 = c3
        · rw [if_pos c, if_pos c]
          have := upd c4 f a' (by omega) ha'
          rw [if_pos rfl] at this; exact this
        · rw [if_neg c, if_neg c]; exact h.eq f a' (by omega) ha'
      · rw [if_neg (by decide : ¬ (23 : Int) = 21), if_neg (by decide : ¬ (23 : Int) = 22), if_pos (rfl : (23 : Int) = 23), he, if_neg (by decide : ¬ (23 : Int) = 21), if_neg (by decide : ¬ (23 : Int) = 22), if_pos (rfl : (23 : Int) = 23)]
        have := upd (IntKind.wrap .u64 (L.getD (259 + 16 * f + a) 0 + c3)) f a' (by omega) ha'
        rw [if_pos rfl] at this; exact this
    · rw [if_neg (fun c => hfg c.2)]
      have key : ∀ y : Int, (Ms.getD g []).getD a' 0 = (L.set (259 + 16 * f + a) y).getD (259 + 16 * g + a') 0 := fun y => by
        have := upd y g a' hg ha'
        rw [if_neg hfg] at this; exact this
      repeat' split
      all_goals first | exact key _ | exact h.eq g a' hg ha'
end Go.Sx
/- Loads and stores by any buffer and any table: what the kernel's and the document's tell. -/
set_option linter.unusedVariables false
namespace Go.Sx
structure FB (L : List Int) : Prop where
  fr : ∀ i : Int, 0 ≤ i → i < 8 → 0 ≤ gI L (5 * i) → 0 ≤ gI L (5 * i + 2) ∧ gI L (5 * i + 2) < 16
theorem FB.start : FB (clearB (List.replicate 41 0)) := by
  refine ⟨fun i i0 i8 h => ?_⟩
  have k : i = 0 ∨ i = 1 ∨ i = 2 ∨ i = 3 ∨ i = 4 ∨ i = 5 ∨ i = 6 ∨ i = 7 := by omega
  rcases k with rfl | rfl | rfl | rfl | rfl | rfl | rfl | rfl <;> exact absurd h (by decide)
theorem FB.fill {L : List Int} (fb : FB L) (h : WB L) (e p f r : Int) : FB (fillB L e p f r) := by
  cases hl : lineOk e p f r with
  | false => unfold fillB; rw [hl]; exact fb
  | true =>
    have hl' := hl
    simp only [lineOk, Bool.and_eq_true, decide_eq_true_eq] at hl'
    obtain ⟨e0, e4, p0, p8, f0, f16, _⟩ := hl'
    obtain ⟨i, i0, i8, hi, _, _⟩ := h.place e0 p0 p8
    have hf : fillB L e p f r = putB L (5 * i) e p f r (IntKind.wrap .i64 (gI L 40 + 1)) := by unfold fillB; rw [if_pos hl, hi]
    have g := fun q hq => gI_putB (L := L) (o := 5 * i) (e := e) (p := p) (f := f) (r := r) (n := IntKind.wrap .i64 (gI L 40 + 1)) (q := q) h.len (by omega) (by omega) hq
    rw [← hf] at g
    refine ⟨fun j j0 j8 hj => ?_⟩
    rw [g _ (by omega)] at hj ⊢
    by_cases hij : j = i
    · subst hij
      rw [if_neg (by omega), if_neg (by omega), if_pos rfl]
      exact ⟨f0, f16⟩
    · rw [if_neg (by omega), if_neg (by omega), if_neg (by omega), if_neg (by omega), if_neg (by omega), if_neg (by omega)] at hj ⊢
      exact fb.fr j j0 j8 hj
theorem FB.flush {L : List Int} (fb : FB L) (h : WB L) (e p : Int) : FB (flushB L e p) := by
  unfold flushB
  split
  · exact fb
  · rename_i ha
    obtain ⟨i, i0, i8, hi, _⟩ := h.at_some ha
    refine ⟨fun j j0 j8 hj => ?_⟩
    rw [hi, gI_emptyB h.len (by omega) (by omega) (by omega)] at hj ⊢
    by_cases hij : j = i
    · subst hij; rw [if_pos rfl] at hj; omega
    · rw [if_neg (by omega), if_neg (by omega)] at hj ⊢
      exact fb.fr j j0 j8 hj
theorem FB.find {L : List Int} (fb : FB L) (h : WB L) {e p : Int} (ha : atB L e p ≠ -1) : 0 ≤ findB L e p 2 ∧ findB L e p 2 < 16 := by
  obtain ⟨i, i0, i8, hi, e0, g0, _⟩ := h.at_some ha
  unfold findB
  rw [if_neg ha, hi]
  exact fb.fr i i0 i8 (by omega)
structure UA (B W : List Int) (Ms : List (List Int)) (K : List Int) : Prop where
  tb : TB B W
  fb : FB B
  mr : MR Ms K
structure DoP (B T : List Int) (Ms : List (List Int)) (env c0 c1 c2 c3 c4 e v w0 w1 w2 w3 : Int) (B' : List Int) (Ns : List (List Int)) : Prop where
  e : e = doR B T env c0 c1 c2 c3 c4
  v : v = doV B T Ms 16 env c0 c1 c2 c3 c4
  w0 : w0 = doW B T env c0 c1 c2 c3 c4 0
  w1 : w1 = doW B T env c0 c1 c2 c3 c4 1
  w2 : w2 = doW B T env c0 c1 c2 c3 c4 2
  w3 : w3 = doW B T env c0 c1 c2 c3 c4 3
  b : B' = doB B T env c0 c1 c2 c3 c4
  n : Ns = (List.range 16).map fun j => doM B T Ms 16 env c0 c1 c2 c3 c4 j
section
variable {B T W K B' : List Int} {Ms Ns : List (List Int)} {env c0 c1 c2 c3 c4 e v w0 w1 w2 w3 : Int}
theorem DoP.err (d : DoP B T Ms env c0 c1 c2 c3 c4 e v w0 w1 w2 w3 B' Ns) {E : Int} (hE : doE env c0 c1 c2 c3 c4 = E) (hne : E ≠ 0) (u : UA B W Ms K) :
    e = E ∧ v = 0 ∧ w0 = 0 ∧ w1 = 0 ∧ w2 = 0 ∧ w3 = 0 ∧ UA B' W Ns K := by
  obtain ⟨h1, h2, h3, h4, h5⟩ := do_fail (B := B) (T := T) (Ls := Ms) (K := 16) (env := env) (c0 := c0) (c1 := c1) (c2 := c2) (c3 := c3) (c4 := c4) (by rw [hE]; exact hne)
  refine ⟨by rw [d.e, h1, hE], by rw [d.v, h2], by rw [d.w0, h3], by rw [d.w1, h3], by rw [d.w2, h3], by rw [d.w3, h3], ?_⟩
  have hb : B' = B := by rw [d.b, h4]
  have hn : Ns = Ms := by rw [d.n]; exact (map_same u.mr.num fun j _ => h5 j).symm
  rw [hb, hn]; exact u
theorem atV_at (p0 : 0 ≤ c1) (p8 : c1 < 8) : atV T c1 2 = tG T c1 2 := by
  unfold atV atOk pageOk
  by_cases h : tG T c1 2 = 0
  · simp [h]
  · simp [h, p0, p8]
theorem DoP.walk (d : DoP B T Ms env c0 c1 c2 c3 c4 e v w0 w1 w2 w3 B' Ns) (hE : doE env c0 c1 c2 c3 c4 = 0) (u : UA B W Ms K) (t : TV T) (e0 : 0 ≤ env) (e4 : env < 4) (p0 : 0 ≤ c1) (p8 : c1 < 8) (k0 : 20 ≤ c0) (k3 : c0 ≤ 23) (a0 : 0 ≤ c2) (a16 : c2 < 16) :
    ((rfB W env c1 8 ≠ -1 ∧ letsB (findR W env c1 3) c0 = true) ∧ e = 0 ∧ v = wkV K (findR W env c1 2) c0 c2 ∧ w0 = findR W env c1 0 ∧ w1 = findR W env c1 1 ∧ w2 = findR W env c1 2 ∧ w3 = findR W env c1 3 ∧ 0 ≤ findR W env c1 2 ∧ findR W env c1 2 ≤ 15 ∧ UA B' W Ns (wkL K (findR W env c1 2) c0 c2 c3 c4)) ∨
    (¬ (rfB W env c1 8 ≠ -1 ∧ letsB (findR W env c1 3) c0 = true) ∧ letsB (tG T c1 2) c0 = true ∧ e = 0 ∧ v = wkV K (tG T c1 0) c0 c2 ∧ w0 = env ∧ w1 = c1 ∧ w2 = tG T c1 0 ∧ w3 = tG T c1 2 ∧ 0 ≤ tG T c1 0 ∧ tG T c1 0 ≤ 15 ∧ UA B' (fillR W env c1 (tG T c1 0) (tG T c1 2)) Ns (wkL K (tG T c1 0) c0 c2 c3 c4)) ∨
    (¬ (rfB W env c1 8 ≠ -1 ∧ letsB (findR W env c1 3) c0 = true) ∧ letsB (tG T c1 2) c0 = false ∧ e = 7 ∧ v = 0 ∧ w0 = 0 ∧ w1 = 0 ∧ w2 = 0 ∧ w3 = 0 ∧ UA B' (flushR W env c1) Ns K) := by
  have hk : c0 = 20 ∨ c0 = 21 ∨ c0 = 22 ∨ c0 = 23 := by omega
  have F := fun (i : Int) (i0 : 0 ≤ i) (i4 : i < 4) => (u.tb.r.find u.tb.w env c1 i i0 i4)
  have hit : hitW B env c1 c0 = true ↔ (rfB W env c1 8 ≠ -1 ∧ letsB (findR W env c1 3) c0 = true) := by
    unfold hitW
    rw [Bool.and_eq_true, decide_eq_true_eq, (F 3 (by omega) (by omega)).2, (F 3 (by omega) (by omega)).1]
  have touch := fun (f : Int) (f0 : 0 ≤ f) (f16 : f < 16) => u.mr.touch (c3 := c3) (c4 := c4) f0 f16 a0 a16 hk
  have word := fun (f : Int) (f0 : 0 ≤ f) (f16 : f < 16) => u.mr.word f0 f16 a0 a16 hk
  have a2 := atV_at (T := T) p0 p8
  rcases walk_cases u.tb.w t c0 e0 e4 p0 p8 with ⟨h1, h2, h3, h4⟩ | ⟨h1, h2, h3, h4, h5, h6, h7, h8, h9, f0, f16, _⟩ | ⟨h1, h2, h3, h4, h5, _⟩
  · left
    have hh := hit.1 h1
    obtain ⟨g1, g2, g3, g4, g5⟩ := do_ok (B := B) (T := T) (Ls := Ms) (K := 16) (env := env) (c0 := c0) (c1 := c1) (c2 := c2) (c3 := c3) (c4 := c4) hE h2
    have hf := u.fb.find u.tb.w ((F 3 (by omega) (by omega)).2.2 hh.1)
    have hn : Ns = (List.range 16).map fun j => touchL Ms 16 (findB B env c1 2) c0 c2 c3 c4 j := by
      rw [d.n]; congr 1; funext j; rw [g5 j, h4 2]; rfl
    have q0 : findB B env c1 0 = findR W env c1 0 := (F 0 (by omega) (by omega)).1
    have q1 : findB B env c1 1 = findR W env c1 1 := (F 1 (by omega) (by omega)).1
    have q2 : findB B env c1 2 = findR W env c1 2 := (F 2 (by omega) (by omega)).1
    have q3 : findB B env c1 3 = findR W env c1 3 := (F 3 (by omega) (by omega)).1
    rw [q2] at hf hn
    refine ⟨hh, by rw [d.e, g1], by rw [d.v, g2, h4 2]; show touchV Ms 16 (findB B env c1 2) c0 c2 = _; rw [q2]; exact word _ hf.1 hf.2, ?_, ?_, ?_, ?_, hf.1, by omega, ?_⟩
    · rw [d.w0, g3, h4 0]; exact q0
    · rw [d.w1, g3, h4 1]; exact q1
    · rw [d.w2, g3, h4 2]; exact q2
    · rw [d.w3, g3, h4 3]; exact q3
    · refine ⟨by rw [d.b, g4, h3]; exact u.tb, by rw [d.b, g4, h3]; exact u.fb, by rw [hn]; exact touch _ hf.1 hf.2⟩
  · right; left
    have hn : ¬ (rfB W env c1 8 ≠ -1 ∧ letsB (findR W env c1 3) c0 = true) := fun c => by rw [hit.2 c] at h1; cases h1
    obtain ⟨g1, g2, g3, g4, g5⟩ := do_ok (B := B) (T := T) (Ls := Ms) (K := 16) (env := env) (c0 := c0) (c1 := c1) (c2 := c2) (c3 := c3) (c4 := c4) hE h3
    have z0 : atV T c1 0 = tG T c1 0 := by unfold atV; rw [if_pos h4]
    rw [z0] at h7 h9 f0 f16
    rw [a2] at h8 h9
    have ht : letsB (tG T c1 2) c0 = true := by unfold tabW at h2; rw [a2] at h2; exact h2
    have hns : Ns = (List.range 16).map fun j => touchL Ms 16 (tG T c1 0) c0 c2 c3 c4 j := by
      rw [d.n]; congr 1; funext j; rw [g5 j, h7]
    refine ⟨hn, ht, by rw [d.e, g1], by rw [d.v, g2, h7]; exact word _ f0 f16, by rw [d.w0, g3, h5], by rw [d.w1, g3, h6], by rw [d.w2, g3, h7], by rw [d.w3, g3, h8], f0, by omega, ?_⟩
    refine ⟨by rw [d.b, g4, h9]; exact u.tb.fill _ _ _ _, by rw [d.b, g4, h9]; exact u.fb.fill u.tb.w _ _ _ _, by rw [hns]; exact touch _ f0 f16⟩
  · right; right
    have hn : ¬ (rfB W env c1 8 ≠ -1 ∧ letsB (findR W env c1 3) c0 = true) := fun c => by rw [hit.2 c] at h1; cases h1
    obtain ⟨g1, g2, g3, g4, g5⟩ := do_fault (B := B) (T := T) (Ls := Ms) (K := 16) (env := env) (c0 := c0) (c1 := c1) (c2 := c2) (c3 := c3) (c4 := c4) hE h3
    have ht : letsB (tG T c1 2) c0 = false := by unfold tabW at h2; rw [a2] at h2; exact h2
    have hns : Ns = Ms := by rw [d.n]; exact (map_same u.mr.num fun j _ => g5 j).symm
    refine ⟨hn, ht, by rw [d.e, g1], by rw [d.v, g2], by rw [d.w0, g3], by rw [d.w1, g3], by rw [d.w2, g3], by rw [d.w3, g3], ?_⟩
    refine ⟨by rw [d.b, g4, h5]; exact u.tb.flush _ _, by rw [d.b, g4, h5]; exact u.fb.flush u.tb.w _ _, by rw [hns]; exact u.mr⟩
end
theorem chA {a b e y : Int} {R : Prop} (ha : a = e) (hb : b = y) (hR : R) : ∀ q1 : Int, q1 = b2i (a == e) → ∀ q2 : Int, q2 = b2i (b == y) → ∀ q3 : Int, q3 = (if q2 = 0 then (0 : Int) else (1 : Int)) → ∀ q4 : Int, q4 = (if q1 = 0 then (0 : Int) else q3) → ∀ q5 : Int, q5 = b2i (q4 == 0) → (q5 ≠ 0 → False) ∧ (q5 = 0 → R) := by
  subst ha; subst hb
  intro q1 e1 q2 e2 q3 e3 q4 e4 q5 e5
  have h1 : q1 = 1 := by rw [e1]; simp [b2i]
  have h2 : q2 = 1 := by rw [e2]; simp [b2i]
  subst h1; subst h2
  rw [if_neg (by decide)] at e3 e4
  subst e3; subst e4; subst e5
  exact ⟨fun h => h rfl, fun _ => hR⟩
theorem chL {w0 x0 w1 x1 w2 x2 w3 x3 : Int} {R : Prop} (h0 : w0 = x0) (h1 : w1 = x1) (h2 : w2 = x2) (h3 : w3 = x3) (hR : R) : ∀ q0 : Int, q0 = b2i (w0 == x0) → ∀ q1 : Int, q1 = b2i (w1 == x1) → ∀ q2 : Int, q2 = b2i (w2 == x2) → ∀ q3 : Int, q3 = b2i (w3 == x3) → ∀ q4 : Int, q4 = (if q3 = 0 then (0 : Int) else (1 : Int)) → ∀ q5 : Int, q5 = (if q2 = 0 then (0 : Int) else q4) → ∀ q6 : Int, q6 = (if q1 = 0 then (0 : Int) else q5) → ∀ q7 : Int, q7 = (if q0 = 0 then (0 : Int) else q6) → ∀ q8 : Int, q8 = b2i (q7 == 0) → (q8 ≠ 0 → False) ∧ (q8 = 0 → R) := by
  subst h0; subst h1; subst h2; subst h3
  intro q0 e0 q1 e1 q2 e2 q3 e3 q4 e4 q5 e5 q6 e6 q7 e7 q8 e8
  have k0 : q0 = 1 := by rw [e0]; simp [b2i]
  have k1 : q1 = 1 := by rw [e1]; simp [b2i]
  have k2 : q2 = 1 := by rw [e2]; simp [b2i]
  have k3 : q3 = 1 := by rw [e3]; simp [b2i]
  subst k0; subst k1; subst k2; subst k3
  rw [if_neg (by decide)] at e4 e5 e6 e7
  subst e4; subst e5; subst e6; subst e7; subst e8
  exact ⟨fun h => h rfl, fun _ => hR⟩
theorem lines_ok {X Y : List Int} (h : ∀ i c : Nat, i < 8 → c < 4 → X.getD (i * 4 + c) 0 = Y.getD (i * 4 + c) 0) {R : Prop} (hR : R) :
    ∃ (I3 : List Int → List (List Int) → Prop) (μ3 : List Int → List (List Int) → Nat), I3 [(0 : Int)] [] ∧
    (∀ v89 : Int, I3 [v89] [] →
     ((v89 < (8 : Int)) → ∀ v91 : Int, v91 = v89 * (4 : Int) → ∀ v92 : Int, v92 = (X).getD (v91).toNat 0 → ∀ v93 : Int, v93 = v91 + (1 : Int) → ∀ v94 : Int, v94 = (X).getD (v93).toNat 0 → ∀ v95 : Int, v95 = v91 + (2 : Int) → ∀ v96 : Int, v96 = (X).getD (v95).toNat 0 → ∀ v97 : Int, v97 = v91 + (3 : Int) → ∀ v98 : Int, v98 = (X).getD (v97).toNat 0 → ∀ v99 : Int, v99 = (Y).getD (v91).toNat 0 → ∀ v100 : Int, v100 = (Y).getD (v93).toNat 0 → ∀ v101 : Int, v101 = (Y).getD (v95).toNat 0 → ∀ v102 : Int, v102 = (Y).getD (v97).toNat 0 → ∀ v103 : Int, v103 = b2i (v92 == v99) → ∀ v104 : Int, v104 = b2i (v94 == v100) → ∀ v105 : Int, v105 = b2i (v96 == v101) → ∀ v106 : Int, v106 = b2i (v98 == v102) → ∀ v107 : Int, v107 = (if v106 = 0 then (0 : Int) else (1 : Int)) → ∀ v108 : Int, v108 = (if v105 = 0 then (0 : Int) else v107) → ∀ v109 : Int, v109 = (if v104 = 0 then (0 : Int) else v108) → ∀ v110 : Int, v110 = (if v103 = 0 then (0 : Int) else v109) → ∀ v111 : Int, v111 = b2i (v110 == 0) → (v111 ≠ 0 → False) ∧
      (v111 = 0 → ∀ v112 : Int, v112 = v89 + (1 : Int) → (I3 [v112] [] ∧ μ3 [v112] [] < μ3 [v89] []))) ∧
     (((8 : Int) ≤ v89) → R)) := by
  refine ⟨fun xs ys => match xs, ys with | [j], [] => 0 ≤ j | _, _ => False, fun xs _ => match xs with | j :: _ => (8 - j).toNat | _ => 0, ?_, ?_⟩ <;> dsimp only
  · omega
  · intro j hj
    obtain ⟨j, rfl⟩ : ∃ m : Nat, j = m := ⟨j.toNat, by omega⟩
    refine ⟨fun c a1 f1 a2 f2 a3 f3 a4 f4 a5 f5 a6 f6 a7 f7 a8 f8 b1 g1 b2 g2 b3 g3 b4 g4 => ?_, fun _ => hR⟩
    have i1 : a1.toNat = j * 4 + 0 := by omega
    have i3 : a3.toNat = j * 4 + 1 := by omega
    have i5 : a5.toNat = j * 4 + 2 := by omega
    have i7 : a7.toNat = j * 4 + 3 := by omega
    refine chL ?_ ?_ ?_ ?_ (fun y ey => ⟨by omega, by omega⟩)
    · rw [f2, g1, i1]; exact h j 0 (by omega) (by omega)
    · rw [f4, g2, i3]; exact h j 1 (by omega) (by omega)
    · rw [f6, g3, i5]; exact h j 2 (by omega) (by omega)
    · rw [f8, g4, i7]; exact h j 3 (by omega) (by omega)
theorem TB.lines {B W : List Int} (t : TB B W) : ∀ i c : Nat, i < 8 → c < 4 → (linesB B).getD (i * 4 + c) 0 = W.getD (i * 4 + c) 0 := fun i c hi hc => by
  rw [t.line hi hc]
  unfold gI
  congr 1
theorem ua_mr {Ms : List (List Int)} {K : List Int} (hM : Ms = List.replicate 16 (List.replicate 16 0)) (hK : K = 1 :: 4 :: 16 :: List.replicate 512 0) : MR Ms K := by
  subst hM; subst hK
  refine ⟨List.length_replicate .., fun j hj => ?_, by rw [List.length_cons, List.length_cons, List.length_cons, List.length_replicate], fun f a hf ha => ?_⟩
  · rw [List.getD_eq_getElem?_getD, List.getElem?_replicate, if_pos hj]; exact List.length_replicate ..
  · have e : 259 + 16 * f + a = (256 + 16 * f + a) + 1 + 1 + 1 := by omega
    rw [e, List.getD_cons_succ, List.getD_cons_succ, List.getD_cons_succ]
    simp only [List.getD_eq_getElem?_getD]
    rw [List.getElem?_replicate, if_pos hf, List.getElem?_replicate]
    show ((List.replicate 16 (0 : Int))[a]?).getD 0 = _
    rw [List.getElem?_replicate, if_pos ha]
    split <;> rfl
theorem dupD {D X : Prop} (h : D) (hx : D → X) : X ∧ ((D ∧ D) ∧ (D ∧ D)) := ⟨hx h, ⟨h, h⟩, ⟨h, h⟩⟩
theorem drop2 {a b : List Int} {l : List (List Int)} {j : Nat} : (a :: b :: l).getD (2 + j) [] = l.getD j [] := by rw [Nat.add_comm]; rfl
end Go.Sx
