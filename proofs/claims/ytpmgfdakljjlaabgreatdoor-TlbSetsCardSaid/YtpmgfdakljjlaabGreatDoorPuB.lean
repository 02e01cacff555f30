/- What a buffer's functions compute: a list of 41 numbers, five to a place (environment, page, frame, rights, when), then the clock. -/
import Derived.Test.YtpmgfdakljjlaabGreatDoorSxM7
set_option linter.unusedVariables false
set_option linter.constructorNameAsVariable false
namespace Go.Sx
def gI (L : List Int) (i : Int) : Int := L.getD i.toNat 0
def hitB (L : List Int) (e p o : Int) : Bool := decide (gI L o = e) && decide (gI L (o + 1) = p)
def baseB (p : Int) : Int := p % 4 * 10
/-- The place of an entry, -1: none. -/
def atB (L : List Int) (e p : Int) : Int :=
  if e < 0 ∨ p < 0 ∨ 8 ≤ p then -1 else if hitB L e p (baseB p) then baseB p else if hitB L e p (baseB p + 5) then baseB p + 5 else -1
def emptyB (L : List Int) (o : Int) : List Int := (((L.set o.toNat (-1)).set (o + 1).toNat 0).set (o + 2).toNat 0).set (o + 3).toNat 0
def findB (L : List Int) (e p k : Int) : Int := if atB L e p = -1 then 0 else gI L (atB L e p + k)
def flushB (L : List Int) (e p : Int) : List Int := if atB L e p = -1 then L else emptyB L (atB L e p)
def lineOk (e p f r : Int) : Bool := decide (0 ≤ e) && (decide (e < 4) && (decide (0 ≤ p) && (decide (p < 8) && (decide (0 ≤ f) && (decide (f < 16) && rightsB r)))))
def roomB (L : List Int) (b : Int) : Int := if gI L b < 0 then b else if gI L (b + 5) < 0 then b + 5 else if gI L (b + 9) < gI L (b + 4) then b + 5 else b
def placeB (L : List Int) (e p : Int) : Int := if atB L e p = -1 then roomB L (baseB p) else atB L e p
def putB (L : List Int) (o e p f r n : Int) : List Int := (((((L.set 40 n).set o.toNat e).set (o + 1).toNat p).set (o + 2).toNat f).set (o + 3).toNat r).set (o + 4).toNat (gI (L.set 40 n) 40)
def fillB (L : List Int) (e p f r : Int) : List Int := if lineOk e p f r then putB L (placeB L e p) e p f r (IntKind.wrap .i64 (gI L 40 + 1)) else L
def evictOk (L : List Int) (s w : Int) : Bool := decide (0 ≤ s) && (decide (s < 4) && (decide (0 ≤ w) && (decide (w < 2) && decide (0 ≤ gI L (s * 10 + w * 5)))))
def evictB (L : List Int) (s w : Int) : List Int := if evictOk L s w then emptyB L (s * 10 + w * 5) else L
def linesB (L : List Int) : List Int := [gI L 0, gI L 1, gI L 2, gI L 3, gI L 5, gI L 6, gI L 7, gI L 8, gI L 10, gI L 11, gI L 12, gI L 13, gI L 15, gI L 16, gI L 17, gI L 18, gI L 20, gI L 21, gI L 22, gI L 23, gI L 25, gI L 26, gI L 27, gI L 28, gI L 30, gI L 31, gI L 32, gI L 33, gI L 35, gI L 36, gI L 37, gI L 38]
/-- The entries of a frame are flushed, one place after another. -/
def ffB (L0 : List Int) (f : Int) : Nat → List Int × Int
  | 0 => (L0, 0)
  | i + 1 =>
    let q := ffB L0 f i
    if 0 ≤ gI L0 (i * 5) ∧ gI L0 (i * 5 + 2) = f ∧ atB q.1 (gI L0 (i * 5)) (gI L0 (i * 5 + 1)) ≠ -1 then (flushB q.1 (gI L0 (i * 5)) (gI L0 (i * 5 + 1)), q.2 + 1) else q
def clearB (L : List Int) : List Int := emptyB (emptyB (emptyB (emptyB (emptyB (emptyB (emptyB (emptyB L 0) 5) 10) 15) 20) 25) 30) 35
theorem linesB_at {L : List Int} {k j : Nat} (hk : k < 8) (hj : j < 4) : (linesB L).getD (k * 4 + j) 0 = gI L ((k : Int) * 5 + (j : Int)) := by
  have h1 : k = 0 ∨ k = 1 ∨ k = 2 ∨ k = 3 ∨ k = 4 ∨ k = 5 ∨ k = 6 ∨ k = 7 := by omega
  have h2 : j = 0 ∨ j = 1 ∨ j = 2 ∨ j = 3 := by omega
  rcases h1 with rfl | rfl | rfl | rfl | rfl | rfl | rfl | rfl <;> rcases h2 with rfl | rfl | rfl | rfl <;> rfl
theorem ffB_succ (L0 : List Int) (f : Int) (i : Nat) : ffB L0 f (i + 1) =
    if 0 ≤ gI L0 (i * 5) ∧ gI L0 (i * 5 + 2) = f ∧ atB (ffB L0 f i).1 (gI L0 (i * 5)) (gI L0 (i * 5 + 1)) ≠ -1 then (flushB (ffB L0 f i).1 (gI L0 (i * 5)) (gI L0 (i * 5 + 1)), (ffB L0 f i).2 + 1) else ffB L0 f i := rfl
theorem ffB_le (L0 : List Int) (f : Int) : ∀ i : Nat, 0 ≤ (ffB L0 f i).2 ∧ (ffB L0 f i).2 ≤ i
  | 0 => by simp [ffB]
  | i + 1 => by
    have := ffB_le L0 f i
    rw [ffB_succ]
    split
    · simp only; omega
    · omega
theorem flushB_none {L : List Int} {e p : Int} (h : atB L e p = -1) : flushB L e p = L := by simp [flushB, h]
end Go.Sx
