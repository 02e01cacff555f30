/- Remainders. -/
import Derived.Test.YtbpilohnhhbbpaaGreatDoorSxM7
namespace Go.Sx
theorem tmodR {x m : Int} (h : 0 < m) : -m < x.tmod m ∧ x.tmod m < m := by
  have h1 := Int.tmod_lt_of_pos x h
  have h2 := Int.tmod_lt_of_pos (-x) h
  rw [Int.neg_tmod] at h2
  omega
theorem tmodP {x m : Int} (hx : 0 ≤ x) (h : 0 < m) : 0 ≤ x.tmod m ∧ x.tmod m < m := by
  rw [Int.tmod_eq_emod_of_nonneg hx]
  exact ⟨Int.emod_nonneg x (by omega), Int.emod_lt_of_pos x h⟩
end Go.Sx
