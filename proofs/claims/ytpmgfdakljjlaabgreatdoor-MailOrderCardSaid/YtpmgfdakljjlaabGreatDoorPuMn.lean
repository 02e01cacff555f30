/- Mail boxes: a number put into a slice, on the ways the library takes. -/
import Derived.Test.YtpmgfdakljjlaabGreatDoorPuMm
set_option linter.unusedVariables false
set_option linter.constructorNameAsVariable false
namespace Go.Sx
theorem leaf_end {L L1 L2 : List Int} {v i n : Int} (hn : (L.length : Int) = n) (h2 : L2 = L ++ L1) (h1 : L1 = [v]) (e : n = i) : [L2] = [insAt L i.toNat v] := by
  subst h2
  subst h1
  rw [← e, ← hn, Int.toNat_natCast, ← ins_end]
theorem leaf_grow {L L1 L2 L3 L4 L5 L6 L7 L8 L9 : List Int} {v i n b c d e : Int} (hn : (L.length : Int) = n) (h9 : L9 = putL L6 e.toNat L8) (h8 : L8 = List.take d.toNat L7) (h7 : L7 = List.drop i.toNat L)
    (h6 : L6 = putL L3 i.toNat L5) (h5 : L5 = List.take c.toNat L4) (h4 : L4 = [v]) (h3 : L3 = L1 ++ L2) (h2 : L2 = List.replicate b.toNat 0) (h1 : L1 = List.take i.toNat L)
    (hi : 0 ≤ i ∧ i ≤ n ∧ b = n + 1 - i ∧ 1 ≤ c ∧ n - i ≤ d ∧ e = i + 1) : [L9] = [insAt L i.toNat v] := by
  obtain ⟨a1, a2, a3, a4, a5, a6⟩ := hi
  have e8 : L8 = List.drop i.toNat L := by rw [h8, h7, List.take_of_length_le (by rw [List.length_drop]; omega)]
  have e5 : L5 = [v] := by rw [h5, h4, List.take_of_length_le (by simp; omega)]
  rw [h9, e8, h6, e5, h3, h2, h1, show e.toNat = i.toNat + 1 by omega, ins_grow (by omega) (by omega)]
theorem leaf_room {L L1 L2 L3 L4 L5 L6 : List Int} {v i n c d e : Int} (hn : (L.length : Int) = n) (h6 : L6 = putL L3 i.toNat L5) (h5 : L5 = List.take c.toNat L4) (h4 : L4 = [v]) (h3 : L3 = putL L e.toNat L2)
    (h2 : L2 = List.take d.toNat L1) (h1 : L1 = List.drop i.toNat L) (hi : 0 ≤ i ∧ i < n ∧ 1 ≤ c ∧ n - i ≤ d ∧ e = i + 1) : [L6] = [insAt L i.toNat v] := by
  obtain ⟨a1, a2, a4, a5, a6⟩ := hi
  have e2 : L2 = List.drop i.toNat L := by rw [h2, h1, List.take_of_length_le (by rw [List.length_drop]; omega)]
  have e5 : L5 = [v] := by rw [h5, h4, List.take_of_length_le (by simp; omega)]
  rw [h6, e5, h3, e2, show e.toNat = i.toNat + 1 by omega, ins_room (by omega)]
theorem put_a {L L1 : List Int} {v i n : Int} (hn : (L.length : Int) = n) (h1 : L1 = [v]) (hi : n ≤ 0) : [L1] = [insAt L i.toNat v] := by
  have : L = [] := List.length_eq_zero_iff.1 (by omega)
  subst this
  simp [h1, insAt]
theorem put_b {L L1 L2 L3 : List Int} {v i n a : Int} (hn : (L.length : Int) = n) (h3 : L3 = L1 ++ L2) (h1 : L1 = [v]) (h2 : L2 = List.take a.toNat L) (hi : i = 0 ∧ n ≤ a) : [L3] = [insAt L i.toNat v] := by
  rw [h3, h1, h2, hi.1, List.take_of_length_le (by omega)]
  simp [insAt]
theorem put_c {L L1 L2 L3 : List Int} {v i n : Int} (hn : (L.length : Int) = n) (h3 : L3 = L1 ++ L2) (h1 : L1 = List.take i.toNat L) (h2 : L2 = [v]) (hi : n ≤ i) : [L3] = [insAt L i.toNat v] := by
  rw [h3, h1, h2]
  unfold insAt
  rw [List.drop_of_length_le (by omega)]
theorem put_d {L L1 L2 L3 L4 L5 L6 : List Int} {v i n a : Int} (hn : (L.length : Int) = n) (h6 : L6 = L3 ++ L5) (h3 : L3 = L1 ++ L2) (h1 : L1 = List.take i.toNat L) (h2 : L2 = [v]) (h5 : L5 = List.take a.toNat L4) (h4 : L4 = List.drop i.toNat L)
    (hi : 0 ≤ i ∧ n - i ≤ a) : [L6] = [insAt L i.toNat v] := by
  obtain ⟨a1, a2⟩ := hi
  rw [h6, h3, h1, h2, h5, h4, List.take_of_length_le (l := List.drop i.toNat L) (by rw [List.length_drop]; omega)]
  simp [insAt]
end Go.Sx
