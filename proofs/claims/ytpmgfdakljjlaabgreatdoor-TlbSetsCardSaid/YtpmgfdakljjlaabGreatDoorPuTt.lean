/- TlbSets: small laws of its numbers. -/
import Derived.Test.YtpmgfdakljjlaabGreatDoorPuTs
set_option linter.unusedVariables false
set_option linter.constructorNameAsVariable false
namespace Go.Sx
theorem tfix4 (x : Int) : (x.tmod 4 + 4).tmod 4 = x % 4 := by
  have h := Int.tmod_def x 4
  have a := Int.tmod_lt_of_pos x (show (0 : Int) < 4 by decide)
  have b := Int.lt_tmod_of_pos x (show (0 : Int) < 4 by decide)
  rw [Int.tmod_eq_emod_of_nonneg (by omega), h]
  omega
theorem tfix8 (x : Int) : (x.tmod 8 + 8).tmod 8 = x % 8 := by
  have h := Int.tmod_def x 8
  have a := Int.tmod_lt_of_pos x (show (0 : Int) < 8 by decide)
  have b := Int.lt_tmod_of_pos x (show (0 : Int) < 8 by decide)
  rw [Int.tmod_eq_emod_of_nonneg (by omega), h]
  omega
theorem lineB_at {L : List Int} {m j : Nat} (hm : m < 8) (hj : j < 4) : (linesB L).getD ((m : Int) * 4 + (j : Int)).toNat 0 = L.getD (m * 5 + j) 0 := by
  rw [show ((m : Int) * 4 + (j : Int)).toNat = m * 4 + j by omega, linesB_at hm hj]
  exact gI_at (by omega)
theorem lineB_at0 {L : List Int} {m : Nat} (hm : m < 8) : (linesB L).getD ((m : Int) * 4).toNat 0 = L.getD (m * 5) 0 := by
  have := lineB_at (L := L) (j := 0) hm (by omega)
  simpa using this
end Go.Sx
