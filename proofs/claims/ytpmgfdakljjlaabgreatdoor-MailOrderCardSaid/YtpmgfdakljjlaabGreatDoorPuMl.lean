/- Mail boxes: ascending lists. -/
import Derived.Test.YtpmgfdakljjlaabGreatDoorSxM7
set_option linter.unusedVariables false
set_option linter.constructorNameAsVariable false
namespace Go.Sx
/-- A list as long as told, its room not less. -/
def mPre (is : List Int) (ls : List (List Int)) : Prop := ((ls.getD 0 []).length : Int) = is.getD 0 0 ∧ is.getD 0 0 ≤ is.getD 1 0
def Asc (L : List Int) : Prop := L.Pairwise (· < ·)
/-- How many are less. -/
def lessN (L : List Int) (v : Int) : Nat := (L.takeWhile fun x => decide (x < v)).length
def insAt (L : List Int) (i : Nat) (v : Int) : List Int := L.take i ++ v :: L.drop i
/-- An ascending list with one more, if it is not there. -/
def putA (L : List Int) (v : Int) : List Int := if v ∈ L then L else insAt L (lessN L v) v
end Go.Sx
