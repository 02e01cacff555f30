/- What the functions of capabilities compute: a list of four numbers (frame, rights, parent's environment, parent's slot) to a slot, eight slots to an environment. -/
import Derived.Test.YtbpilohnhhbbpaaGreatDoorPuM
set_option linter.unusedVariables false
set_option linter.constructorNameAsVariable false
namespace Go.Sx
def cG (L : List Int) (e s k : Int) : Int := L.getD (e * 32 + s * 4 + k).toNat 0
def plOk (n e s : Int) : Bool := decide (0 ≤ e) && decide (e < n) && decide (0 ≤ s) && decide (s < 8)
def capOk (n : Int) (L : List Int) (e s : Int) : Bool := plOk n e s && decide (cG L e s 1 ≠ 0)
def capV (n : Int) (L : List Int) (e s k : Int) : Int := if capOk n L e s then cG L e s k else 0
def cSet (L : List Int) (e s f r pe ps : Int) : List Int := (((L.set (e * 32 + s * 4).toNat f).set (e * 32 + s * 4 + 1).toNat r).set (e * 32 + s * 4 + 2).toNat pe).set (e * 32 + s * 4 + 3).toNat ps
def rootE (n : Int) (L : List Int) (e s f : Int) : Int := if !plOk n e s || decide (f < 0) || decide (16 ≤ f) then 2 else if cG L e s 1 ≠ 0 then 4 else 0
def rootL (n : Int) (L : List Int) (e s f : Int) : List Int := if rootE n L e s f = 0 then cSet L e s f 3 (-1) 0 else L
def derE (n : Int) (L : List Int) (e s t d r : Int) : Int :=
  if !plOk n e s || !plOk n t d || !rightsB r then 2 else if cG L e s 1 = 0 then 3 else if cG L t d 1 ≠ 0 then 4 else if !withinB r (cG L e s 1) then 5 else 0
def derL (n : Int) (L : List Int) (e s t d r : Int) : List Int := if derE n L e s t d r = 0 then cSet L t d (cG L e s 0) r e s else L
/-- Does the capability with these rights and this parent come from a place? -/
def undC (L : List Int) (e s : Int) : Nat → Int → Int → Int → Bool
  | 0, _, _, _ => false
  | n + 1, r, pe, ps => if r = 0 ∨ pe < 0 then false else if pe = e ∧ ps = s then true else undC L e s n (cG L pe ps 1) (cG L pe ps 2) (cG L pe ps 3)
/-- Does its chain of parents end within so many steps? -/
def endC (L : List Int) : Nat → Int → Int → Int → Bool
  | 0, _, _, _ => false
  | n + 1, r, pe, ps => if r = 0 ∨ pe < 0 then true else endC L n (cG L pe ps 1) (cG L pe ps 2) (cG L pe ps 3)
/-- How many steps it takes. -/
def depC (L : List Int) : Nat → Int → Int → Int → Nat
  | 0, _, _, _ => 0
  | n + 1, r, pe, ps => if r = 0 ∨ pe < 0 then 0 else depC L n (cG L pe ps 1) (cG L pe ps 2) (cG L pe ps 3) + 1
/-- A tree whose parents are places, and whose chains end. -/
structure CV (n : Int) (L : List Int) : Prop where
  len : (L.length : Int) = n * 32
  par : ∀ e s : Int, 0 ≤ e → e < n → 0 ≤ s → s < 8 → cG L e s 1 ≠ 0 → 0 ≤ cG L e s 2 → cG L e s 2 < n ∧ 0 ≤ cG L e s 3 ∧ cG L e s 3 < 8
  ends : ∀ e s : Int, 0 ≤ e → e < n → 0 ≤ s → s < 8 → endC L 33 (cG L e s 1) (cG L e s 2) (cG L e s 3) = true
/-- The places of which something holds, in order, as a list of numbers. -/
def rowC (q : Int → Int → Bool) (e : Int) : Nat → List Int
  | 0 => []
  | k + 1 => if q e k then rowC q e k ++ [e, (k : Int)] else rowC q e k
def selC (q : Int → Int → Bool) : Nat → List Int
  | 0 => []
  | m + 1 => selC q m ++ rowC q m 8
def qBelow (L : List Int) (e s a b : Int) : Bool := decide (cG L a b 1 ≠ 0) && undC L e s 33 (cG L a b 1) (cG L a b 2) (cG L a b 3)
def qOf (L : List Int) (f a b : Int) : Bool := decide (cG L a b 1 ≠ 0) && decide (cG L a b 0 = f)
def qDrop (L : List Int) (e s a b : Int) : Bool := decide (cG L a b 1 ≠ 0) && (decide (a = e ∧ b = s) || undC L e s 33 (cG L a b 1) (cG L a b 2) (cG L a b 3))
def belowL (n : Int) (L : List Int) (e s : Int) : List Int := selC (qBelow L e s) n.toNat
def ofL (n : Int) (L : List Int) (f : Int) : List Int := selC (qOf L f) n.toNat
def dropL (n : Int) (L : List Int) (e s : Int) : List Int := selC (qDrop L e s) n.toNat
/-- Slots emptied, one after another: of the first k places. -/
def emptyK (L W : List Int) : Nat → List Int
  | 0 => L
  | k + 1 => cSet (emptyK L W k) (W.getD (2 * k) 0) (W.getD (2 * k + 1) 0) 0 0 0 0
def emptyC (L W : List Int) : List Int := emptyK L W (W.length / 2)
def lookE (n : Int) (L : List Int) (e s : Int) : Int := if !plOk n e s then 2 else if cG L e s 1 = 0 then 3 else 0
theorem rowC_succ (q : Int → Int → Bool) (e : Int) (k : Nat) : rowC q e (k + 1) = if q e k then rowC q e k ++ [e, (k : Int)] else rowC q e k := rfl
theorem selC_succ (q : Int → Int → Bool) (m : Nat) : selC q (m + 1) = selC q m ++ rowC q m 8 := rfl
theorem rowC_len (q : Int → Int → Bool) (e : Int) : ∀ k : Nat, (rowC q e k).length ≤ 2 * k ∧ (rowC q e k).length % 2 = 0
  | 0 => by simp [rowC]
  | k + 1 => by
    have := rowC_len q e k
    rw [rowC_succ]
    split
    · rw [List.length_append]; simp only [List.length_cons, List.length_nil]; omega
    · omega
theorem selC_len (q : Int → Int → Bool) : ∀ m : Nat, (selC q m).length ≤ 16 * m ∧ (selC q m).length % 2 = 0
  | 0 => by simp [selC]
  | m + 1 => by
    have := selC_len q m
    have := rowC_len q m 8
    rw [selC_succ, List.length_append]; omega
theorem endC_succ (L : List Int) (n : Nat) (r pe ps : Int) : endC L (n + 1) r pe ps = if r = 0 ∨ pe < 0 then true else endC L n (cG L pe ps 1) (cG L pe ps 2) (cG L pe ps 3) := rfl
theorem undC_succ (L : List Int) (e s : Int) (n : Nat) (r pe ps : Int) : undC L e s (n + 1) r pe ps = if r = 0 ∨ pe < 0 then false else if pe = e ∧ ps = s then true else undC L e s n (cG L pe ps 1) (cG L pe ps 2) (cG L pe ps 3) := rfl
theorem depC_succ (L : List Int) (n : Nat) (r pe ps : Int) : depC L (n + 1) r pe ps = if r = 0 ∨ pe < 0 then 0 else depC L n (cG L pe ps 1) (cG L pe ps 2) (cG L pe ps 3) + 1 := rfl
theorem depC_eq {L : List Int} : ∀ {n a b : Nat} {r pe ps : Int}, endC L n r pe ps = true → n ≤ a → n ≤ b → depC L a r pe ps = depC L b r pe ps
  | 0, _, _, _, _, _, h, _, _ => by cases h
  | n + 1, 0, _, _, _, _, h, ha, _ => absurd ha (by omega)
  | n + 1, a + 1, 0, _, _, _, h, _, hb => absurd hb (by omega)
  | n + 1, a + 1, b + 1, r, pe, ps, h, ha, hb => by
    rw [depC_succ, depC_succ]
    rw [endC_succ] at h
    split
    · rfl
    · rename_i hc
      rw [if_neg hc] at h
      rw [depC_eq (a := a) (b := b) h (by omega) (by omega)]
theorem cG0 (L : List Int) (e s : Int) : cG L e s 0 = L.getD (e * 32 + s * 4).toNat 0 := by unfold cG; rw [Int.add_zero]
theorem rows_read {R L : List Int} {b : Int} (h : R = (List.range 32).map fun (j : Nat) => L.getD (b + (j : Int)).toNat 0) {j : Nat} (hj : j < 32) : R.getD j 0 = L.getD (b + (j : Int)).toNat 0 := by
  rw [h, List.getD_eq_getElem?_getD, List.getElem?_map, List.getElem?_range hj]; rfl
/-- A slot's four numbers, out of the numbers of its environment's slots. -/
theorem rows_cG {R L : List Int} {m : Nat} (h : R = (List.range 32).map fun (j : Nat) => L.getD ((m : Int) * 32 + (j : Int)).toNat 0) {k i : Nat} (hk : k < 8) (hi : i < 4) : R.getD ((k : Int) * 4 + (i : Int)).toNat 0 = cG L m k i := by
  rw [show ((k : Int) * 4 + (i : Int)).toNat = k * 4 + i by omega, rows_read h (by omega)]
  unfold cG
  congr 2
  push_cast
  omega
theorem cSet_len {L : List Int} {e s f r pe ps : Int} : (cSet L e s f r pe ps).length = L.length := by simp [cSet]
theorem emptyK_len (L W : List Int) : ∀ k : Nat, (emptyK L W k).length = L.length
  | 0 => rfl
  | k + 1 => by rw [emptyK, cSet_len, emptyK_len]
/-- A list of places. -/
structure PlsOk (n : Int) (W : List Int) : Prop where
  even : W.length % 2 = 0
  ok : ∀ j : Nat, 2 * j + 1 < W.length → 0 ≤ W.getD (2 * j) 0 ∧ W.getD (2 * j) 0 < n ∧ 0 ≤ W.getD (2 * j + 1) 0 ∧ W.getD (2 * j + 1) 0 < 8
theorem PlsOk.nil (n : Int) : PlsOk n [] := ⟨rfl, fun j h => by simp at h⟩
theorem getD_left {l m : List Int} {i : Nat} (h : i < l.length) : (l ++ m).getD i 0 = l.getD i 0 := by simp [List.getD, List.getElem?_append_left h]
theorem getD_right {l m : List Int} {i : Nat} (h : l.length ≤ i) : (l ++ m).getD i 0 = m.getD (i - l.length) 0 := by simp [List.getD, List.getElem?_append_right h]
theorem PlsOk.app {n : Int} {W V : List Int} (h : PlsOk n W) (g : PlsOk n V) : PlsOk n (W ++ V) := by
  have e1 := h.even
  have e2 := g.even
  refine ⟨by rw [List.length_append]; omega, fun j hj => ?_⟩
  rw [List.length_append] at hj
  by_cases c : 2 * j + 1 < W.length
  · rw [getD_left (by omega), getD_left c]; exact h.ok j c
  · rw [getD_right (by omega), getD_right (by omega)]
    have := g.ok (j - W.length / 2) (by omega)
    rw [show 2 * (j - W.length / 2) = 2 * j - W.length by omega, show 2 * j - W.length + 1 = 2 * j + 1 - W.length by omega] at this
    exact this
theorem PlsOk.two {n a b : Int} (h1 : 0 ≤ a) (h2 : a < n) (h3 : 0 ≤ b) (h4 : b < 8) : PlsOk n [a, b] := by
  refine ⟨by simp, fun j hj => ?_⟩
  have : j = 0 := by simp at hj; omega
  subst this
  exact ⟨h1, h2, h3, h4⟩
theorem rowC_ok {q : Int → Int → Bool} {n e : Int} (h0 : 0 ≤ e) (hn : e < n) : ∀ k : Nat, k ≤ 8 → PlsOk n (rowC q e k)
  | 0, _ => PlsOk.nil n
  | k + 1, hk => by
    rw [rowC_succ]
    split
    · exact (rowC_ok h0 hn k (by omega)).app (PlsOk.two h0 hn (by omega) (by omega))
    · exact rowC_ok h0 hn k (by omega)
theorem selC_ok {q : Int → Int → Bool} {n : Int} : ∀ m : Nat, (m : Int) ≤ n → PlsOk n (selC q m)
  | 0, _ => PlsOk.nil n
  | m + 1, hm => by
    rw [selC_succ]
    exact (selC_ok m (by omega)).app (rowC_ok (by omega) (by omega) 8 (Nat.le_refl 8))
/-- A tree is in order, decided. -/
def cvB (n : Nat) (L : List Int) : Bool :=
  decide (L.length = n * 32) && ((List.range n).all fun (e : Nat) => (List.range 8).all fun (s : Nat) =>
    (decide (cG L e s 1 = 0) || decide (cG L e s 2 < 0) || (decide (cG L e s 2 < n) && decide (0 ≤ cG L e s 3) && decide (cG L e s 3 < 8))) && endC L 33 (cG L e s 1) (cG L e s 2) (cG L e s 3))
theorem cvB_ok {n : Nat} {L : List Int} (h : cvB n L = true) : CV n L := by
  simp only [cvB, Bool.and_eq_true, decide_eq_true_eq, List.all_eq_true, List.mem_range] at h
  obtain ⟨h1, h2⟩ := h
  refine ⟨by rw [h1]; push_cast; rfl, fun e s e0 e1 s0 s1 hr hp => ?_, fun e s e0 e1 s0 s1 => ?_⟩
  · obtain ⟨e, rfl⟩ : ∃ m : Nat, e = m := ⟨e.toNat, by omega⟩
    obtain ⟨s, rfl⟩ : ∃ m : Nat, s = m := ⟨s.toNat, by omega⟩
    have := (h2 e (by omega) s (by omega)).1
    simp only [Bool.or_eq_true, Bool.and_eq_true, decide_eq_true_eq] at this
    omega
  · obtain ⟨e, rfl⟩ : ∃ m : Nat, e = m := ⟨e.toNat, by omega⟩
    obtain ⟨s, rfl⟩ : ∃ m : Nat, s = m := ⟨s.toNat, by omega⟩
    exact (h2 e (by omega) s (by omega)).2
theorem getD_setC {L : List Int} {n q : Nat} {v : Int} (hn : n < L.length) : (L.set n v).getD q 0 = if q = n then v else L.getD q 0 := by
  simp only [List.getD_eq_getElem?_getD, List.getElem?_set]
  by_cases h : n = q
  · subst h; simp [hn]
  · have h' : ¬ q = n := fun c => h c.symm
    simp [h, h']
theorem cG_set {L : List Int} {n e s f r pe ps e' s' : Int} {k : Nat} (hL : (L.length : Int) = n * 32) (e0 : 0 ≤ e) (en : e < n) (s0 : 0 ≤ s) (s8 : s < 8) (e0' : 0 ≤ e') (s0' : 0 ≤ s') (s8' : s' < 8) (hk : k < 4) :
    cG (cSet L e s f r pe ps) e' s' k = if e' = e ∧ s' = s then ([f, r, pe, ps] : List Int).getD k 0 else cG L e' s' k := by
  unfold cG cSet
  rw [getD_setC (by simp; omega), getD_setC (by simp; omega), getD_setC (by simp; omega), getD_setC (by omega)]
  by_cases h : e' = e ∧ s' = s
  · obtain ⟨rfl, rfl⟩ := h
    rw [if_pos (c := e' = e' ∧ s' = s') ⟨rfl, rfl⟩]
    have : k = 0 ∨ k = 1 ∨ k = 2 ∨ k = 3 := by omega
    rcases this with rfl | rfl | rfl | rfl
    · rw [if_neg (by omega), if_neg (by omega), if_neg (by omega), if_pos (by omega)]; rfl
    · rw [if_neg (by omega), if_neg (by omega), if_pos (by omega)]; rfl
    · rw [if_neg (by omega), if_pos (by omega)]; rfl
    · rw [if_pos (by omega)]; rfl
  · rw [if_neg h, if_neg (by omega), if_neg (by omega), if_neg (by omega), if_neg (by omega)]
/-- CapsRights: a chain of capabilities in one environment. -/
structure RT (T : List Int) (a : Nat) (has : Int) : Prop where
  len : T.length = 32
  rights : cG T 0 a 1 = has
  frame : cG T 0 a 0 = 1
  free : ∀ s : Nat, s < 8 → a < s → cG T 0 s 1 = 0
theorem RT.start : RT (rootL 1 [0, 0, 0, 0, 0, 0, 0, 0, 0, 0, 0, 0, 0, 0, 0, 0, 0, 0, 0, 0, 0, 0, 0, 0, 0, 0, 0, 0, 0, 0, 0, 0] 0 0 1) 0 3 :=
  ⟨by decide +kernel, by decide +kernel, by decide +kernel, by decide +kernel⟩
theorem RT.der {T : List Int} {a : Nat} {has r : Int} (h : RT T a has) (ha : a < 7) (h1 : 1 ≤ has) (h3 : has ≤ 3) :
    (¬ (1 ≤ r ∧ r ≤ 3) → derE 1 T 0 a 0 ((a : Int) + 1) r = 2 ∧ derL 1 T 0 a 0 ((a : Int) + 1) r = T) ∧
    (1 ≤ r → r ≤ 3 → ¬ (r = has ∨ has = 3) → derE 1 T 0 a 0 ((a : Int) + 1) r = 5 ∧ derL 1 T 0 a 0 ((a : Int) + 1) r = T) ∧
    (1 ≤ r → r ≤ 3 → (r = has ∨ has = 3) → derE 1 T 0 a 0 ((a : Int) + 1) r = 0 ∧ RT (derL 1 T 0 a 0 ((a : Int) + 1) r) (a + 1) r) := by
  have p1 : plOk 1 0 a = true := by simp [plOk]; omega
  have p2 : plOk 1 0 ((a : Int) + 1) = true := by simp [plOk]; omega
  have hf := h.free (a + 1) (by omega) (by omega)
  push_cast at hf
  have hr := h.rights
  have hE : derE 1 T 0 a 0 ((a : Int) + 1) r = if !rightsB r then 2 else if !withinB r has then 5 else 0 := by
    unfold derE
    rw [p1, p2, hr, hf]
    have : ¬ has = 0 := by omega
    simp [this]
  refine ⟨fun c => ?_, fun c1 c2 c3 => ?_, fun c1 c2 c3 => ?_⟩
  · have : rightsB r = false := by
      cases e : rightsB r with
      | false => rfl
      | true => simp [rightsB] at e; exact absurd e c
    rw [this] at hE
    have e2 : derE 1 T 0 a 0 ((a : Int) + 1) r = 2 := by rw [hE]; rfl
    exact ⟨e2, by unfold derL; rw [e2]; rfl⟩
  · have q1 : rightsB r = true := by simp [rightsB]; omega
    have q2 : withinB r has = false := by
      cases e : withinB r has with
      | false => rfl
      | true => simp [withinB] at e; exact absurd e.2 c3
    rw [q1, q2] at hE
    have e2 : derE 1 T 0 a 0 ((a : Int) + 1) r = 5 := by rw [hE]; rfl
    exact ⟨e2, by unfold derL; rw [e2]; rfl⟩
  · have q1 : rightsB r = true := by simp [rightsB]; omega
    have q0 : rightsB has = true := by simp [rightsB]; omega
    have q2 : withinB r has = true := by simp [withinB, q1, q0]; exact c3
    rw [q1, q2] at hE
    have e2 : derE 1 T 0 a 0 ((a : Int) + 1) r = 0 := by rw [hE]; rfl
    refine ⟨e2, ?_⟩
    have eL : derL 1 T 0 a 0 ((a : Int) + 1) r = cSet T 0 ((a : Int) + 1) 1 r 0 a := by unfold derL; rw [if_pos e2, h.frame]
    have hl : (T.length : Int) = 1 * 32 := by rw [h.len]; rfl
    have g := fun (s' : Int) (k : Nat) (a1 : 0 ≤ s') (a2 : s' < 8) (a3 : k < 4) => cG_set (f := 1) (r := r) (pe := 0) (ps := (a : Int)) (e := 0) (s := (a : Int) + 1) (e' := 0) (s' := s') (k := k) hl (by omega) (by omega) (by omega) (by omega) (by omega) a1 a2 a3
    rw [eL]
    refine ⟨by rw [cSet_len]; exact h.len, ?_, ?_, fun s hs8 hs => ?_⟩
    · have := g ((a : Int) + 1) 1 (by omega) (by omega) (by omega)
      rw [if_pos ⟨rfl, rfl⟩] at this
      push_cast; exact this
    · have := g ((a : Int) + 1) 0 (by omega) (by omega) (by omega)
      rw [if_pos ⟨rfl, rfl⟩] at this
      push_cast; exact this
    · have := g s 1 (by omega) (by omega) (by omega)
      rw [if_neg (by omega)] at this
      rw [show cG (cSet T 0 ((a : Int) + 1) 1 r 0 a) 0 s 1 = cG T 0 s 1 from this]
      exact h.free s hs8 (by omega)
theorem RT.at {T : List Int} {a : Nat} {has : Int} (h : RT T a has) (ha : a < 8) (h1 : 1 ≤ has) : capOk 1 T 0 a = true ∧ capV 1 T 0 a 1 = has ∧ capV 1 T 0 a 0 = 1 := by
  have : capOk 1 T 0 a = true := by
    unfold capOk
    rw [h.rights]
    simp [plOk]; omega
  exact ⟨this, by unfold capV; rw [if_pos this, h.rights], by unfold capV; rw [if_pos this, h.frame]⟩
end Go.Sx
