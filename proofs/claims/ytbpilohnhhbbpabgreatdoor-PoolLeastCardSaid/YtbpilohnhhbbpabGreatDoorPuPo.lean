/- What is told of a pool's frames. -/
import Derived.Test.YtbpilohnhhbbpabGreatDoorPuM
set_option linter.unusedVariables false
set_option linter.constructorNameAsVariable false
namespace Go.Sx
/-- Where the first x stands. -/
def IdxP (L : List Int) (x r : Int) : Prop :=
  (∃ i : Nat, r = i ∧ i < L.length ∧ L.getD i 0 = x ∧ ∀ j, j < i → L.getD j 0 ≠ x) ∨ (r = -1 ∧ ∀ j, j < L.length → L.getD j 0 ≠ x)
def NoP (L : List Int) : Prop := ∀ j, j < L.length → L.getD j 0 ≠ 0
/-- The least free frame is taken. -/
def TakeP (L : List Int) (xs : List Int) (ys : List (List Int)) : Prop :=
  (∃ i : Nat, xs = [(i : Int), 1] ∧ i < L.length ∧ L.getD i 0 = 0 ∧ (∀ j, j < i → L.getD j 0 ≠ 0) ∧ ys = [L.set i 1]) ∨ (xs = [0, 0] ∧ NoP L ∧ ys = [L])
def LetP (L : List Int) (f : Int) (xs : List Int) (ys : List (List Int)) : Prop :=
  (L.getD f.toNat 0 = 0 ∧ xs = [0, 0] ∧ ys = [L]) ∨ (L.getD f.toNat 0 ≠ 0 ∧ xs = [L.getD f.toNat 0 - 1, 1] ∧ ys = [L.set f.toNat (L.getD f.toNat 0 - 1)])
theorem getD_setP {L : List Int} {n q : Nat} {v : Int} (hn : n < L.length) : (L.set n v).getD q 0 = if q = n then v else L.getD q 0 := by
  simp only [List.getD, List.getElem?_set]
  by_cases h : n = q
  · subst h; simp [hn]
  · rw [if_neg h, if_neg (fun c => h c.symm)]
theorem getD_repP {n q : Nat} {v : Int} (hn : q < n) : (List.replicate n v).getD q 0 = v := by
  simp [List.getD, hn]
theorem takeP_at {L L' : List Int} {p q : Int} {i : Nat} (h : TakeP L [p, q] [L']) (hi : i < L.length) (h0 : L.getD i 0 = 0) (hb : ∀ j, j < i → L.getD j 0 ≠ 0) : p = i ∧ q = 1 ∧ L' = L.set i 1 := by
  rcases h with ⟨k, hx, hk, hk0, hkb, hy⟩ | ⟨_, hN, _⟩
  · have hki : k = i := by
      rcases Nat.lt_trichotomy k i with h | h | h
      · exact absurd hk0 (hb k h)
      · exact h
      · exact absurd h0 (hkb i h)
    subst hki
    simp only [List.cons.injEq, and_true] at hx hy
    exact ⟨hx.1, hx.2, hy⟩
  · exact absurd h0 (hN i hi)
theorem takeP_none {L L' : List Int} {p q : Int} (h : TakeP L [p, q] [L']) (hN : NoP L) : p = 0 ∧ q = 0 ∧ L' = L := by
  rcases h with ⟨k, _, hk, hk0, _, _⟩ | ⟨hx, _, hy⟩
  · exact absurd hk0 (hN k hk)
  · simp only [List.cons.injEq, and_true] at hx hy
    exact ⟨hx.1, hx.2, hy⟩
end Go.Sx
