/- What the document's buffer computes: a list of 41 numbers: eight lines of four, when each was filled, the clock. -/
import Derived.Test.YtbpilohnhhbbpabGreatDoorPuB
set_option linter.unusedVariables false
set_option linter.constructorNameAsVariable false
namespace Go.Sx
def hitR (M : List Int) (e p : Int) (i : Nat) : Bool := decide (0 ≤ gI M (i * 4)) && (decide (gI M (i * 4) = e) && decide (gI M (i * 4 + 1) = p))
/-- The first place of an entry below n, -1: none. -/
def rfB (M : List Int) (e p : Int) : Nat → Int
  | 0 => -1
  | n + 1 => if rfB M e p n ≠ -1 then rfB M e p n else if hitR M e p n then n else -1
def noneR (M : List Int) (i : Int) : List Int := (((M.set (i * 4).toNat (-1)).set (i * 4 + 1).toNat 0).set (i * 4 + 2).toNat 0).set (i * 4 + 3).toNat 0
def findR (M : List Int) (e p k : Int) : Int := if rfB M e p 8 = -1 then 0 else gI M (rfB M e p 8 * 4 + k)
def flushR (M : List Int) (e p : Int) : List Int := if rfB M e p 8 = -1 then M else noneR M (rfB M e p 8)
def roomR (M : List Int) (f : Int) : Int := if gI M (f * 4) < 0 then f else if gI M (f * 4 + 4) < 0 then f + 1 else if gI M (33 + f) < gI M (32 + f) then f + 1 else f
def placeR (M : List Int) (e p : Int) : Int := if rfB M e p 8 = -1 then roomR M (p % 4 * 2) else rfB M e p 8
def putR (M : List Int) (i e p f r n : Int) : List Int := (((((M.set 40 n).set (i * 4).toNat e).set (i * 4 + 1).toNat p).set (i * 4 + 2).toNat f).set (i * 4 + 3).toNat r).set (32 + i).toNat (gI (M.set 40 n) 40)
def fillR (M : List Int) (e p f r : Int) : List Int := if lineOk e p f r then putR M (placeR M e p) e p f r (IntKind.wrap .i64 (gI M 40 + 1)) else M
def evictIn (s w : Int) : Bool := decide (0 ≤ s) && (decide (s < 4) && (decide (0 ≤ w) && decide (w < 2)))
def evictROk (M : List Int) (s w : Int) : Bool := evictIn s w && decide (0 ≤ gI M ((s * 2 + w) * 4))
def evictR (M : List Int) (s w : Int) : List Int := if evictIn s w then noneR M (s * 2 + w) else M
def ffR (M : List Int) (f : Int) : Nat → List Int × Int
  | 0 => (M, 0)
  | i + 1 =>
    let q := ffR M f i
    if 0 ≤ gI q.1 (i * 4) ∧ gI q.1 (i * 4 + 2) = f then (noneR q.1 i, q.2 + 1) else q
theorem rfB_succ (M : List Int) (e p : Int) (n : Nat) : rfB M e p (n + 1) = if rfB M e p n ≠ -1 then rfB M e p n else if hitR M e p n then (n : Int) else -1 := rfl
theorem rfB_range (M : List Int) (e p : Int) : ∀ n : Nat, -1 ≤ rfB M e p n ∧ rfB M e p n < n ∨ rfB M e p n = -1
  | 0 => .inr rfl
  | n + 1 => by
    have := rfB_range M e p n
    rw [rfB_succ]
    split
    · omega
    · split <;> omega
theorem rfB_stay {M : List Int} {e p : Int} {k : Nat} (h : rfB M e p k ≠ -1) : ∀ {n : Nat}, k ≤ n → rfB M e p n = rfB M e p k
  | 0, hk => by rw [show k = 0 by omega]
  | n + 1, hk => by
    by_cases hc : k = n + 1
    · rw [hc]
    · have := rfB_stay h (n := n) (by omega)
      rw [rfB_succ, this, if_pos h]
theorem ffR_succ (M : List Int) (f : Int) (i : Nat) : ffR M f (i + 1) = if 0 ≤ gI (ffR M f i).1 (i * 4) ∧ gI (ffR M f i).1 (i * 4 + 2) = f then (noneR (ffR M f i).1 i, (ffR M f i).2 + 1) else ffR M f i := rfl
theorem ffR_le (M : List Int) (f : Int) : ∀ i : Nat, 0 ≤ (ffR M f i).2 ∧ (ffR M f i).2 ≤ i
  | 0 => by simp [ffR]
  | i + 1 => by
    have := ffR_le M f i
    rw [ffR_succ]
    split
    · simp only; omega
    · omega
end Go.Sx
