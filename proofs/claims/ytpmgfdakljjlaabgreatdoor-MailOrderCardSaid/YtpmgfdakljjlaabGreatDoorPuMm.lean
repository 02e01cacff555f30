/- Mail boxes: laws of ascending lists. -/
import Derived.Test.YtpmgfdakljjlaabGreatDoorPuMl
set_option linter.unusedVariables false
set_option linter.constructorNameAsVariable false
namespace Go.Sx
theorem lessN_cons (x : Int) (l : List Int) (v : Int) : lessN (x :: l) v = if x < v then lessN l v + 1 else 0 := by
  unfold lessN
  rw [List.takeWhile_cons]
  by_cases h : x < v
  · simp [h]
  · simp [h]
theorem lessN_le (L : List Int) (v : Int) : lessN L v ≤ L.length := by
  induction L with
  | nil => simp [lessN]
  | cons x l ih => rw [lessN_cons]; split <;> simp; omega
theorem lessN_eq {v : Int} : ∀ {L : List Int} {k : Nat}, k ≤ L.length → (∀ j, j < k → L.getD j 0 < v) → (k < L.length → v ≤ L.getD k 0) → lessN L v = k
  | [], k, hk, _, _ => by simp at hk; subst hk; rfl
  | x :: l, 0, _, _, h2 => by
    have := h2 (by simp)
    rw [lessN_cons, if_neg (by simpa using this)]
  | x :: l, k + 1, hk, h1, h2 => by
    have h0 := h1 0 (by omega)
    simp only [List.getD_cons_zero] at h0
    rw [lessN_cons, if_pos h0, lessN_eq (L := l) (k := k) (by simpa using hk) (fun j hj => by simpa using h1 (j + 1) (by omega)) (fun hk' => by simpa using h2 (by simpa using hk'))]
theorem lessN_take {v : Int} : ∀ {L : List Int}, ∀ x ∈ L.take (lessN L v), x < v
  | [], x, h => by simp at h
  | y :: l, x, h => by
    rw [lessN_cons] at h
    split at h
    · rename_i hy
      rw [List.take_succ_cons, List.mem_cons] at h
      rcases h with rfl | h
      · exact hy
      · exact lessN_take x h
    · simp at h
theorem lessN_drop {v : Int} : ∀ {L : List Int}, Asc L → ∀ x ∈ L.drop (lessN L v), v ≤ x
  | [], _, x, h => by simp at h
  | y :: l, hA, x, h => by
    have hA' := List.pairwise_cons.1 hA
    rw [lessN_cons] at h
    split at h
    · rw [List.drop_succ_cons] at h
      exact lessN_drop hA'.2 x h
    · rename_i hy
      rw [List.drop_zero, List.mem_cons] at h
      rcases h with rfl | h
      · omega
      · have := hA'.1 x h; omega
theorem asc_mem {L : List Int} (hA : Asc L) {v : Int} {k : Nat} (h1 : ∀ j, j < k → L.getD j 0 < v) (h2 : k < L.length → v ≤ L.getD k 0) : v ∈ L ↔ k < L.length ∧ L.getD k 0 = v := by
  constructor
  · intro h
    obtain ⟨j, hj, rfl⟩ := List.getElem_of_mem h
    have ej : L.getD j 0 = L[j] := by simp [List.getD_eq_getElem?_getD, hj]
    rcases Nat.lt_trichotomy j k with h | h | h
    · have := h1 j h; omega
    · subst h; exact ⟨hj, ej⟩
    · have hk : k < L.length := by omega
      have := List.pairwise_iff_getElem.1 hA k j hk hj h
      have ek : L.getD k 0 = L[k] := by simp [List.getD_eq_getElem?_getD, hk]
      have := h2 hk
      omega
  · rintro ⟨hk, e⟩
    have ek : L.getD k 0 = L[k] := by simp [List.getD_eq_getElem?_getD, hk]
    rw [← e, ek]
    exact List.getElem_mem hk
theorem insAt_len {L : List Int} {i : Nat} {v : Int} (h : i ≤ L.length) : (insAt L i v).length = L.length + 1 := by
  unfold insAt
  simp only [List.length_append, List.length_take, List.length_cons, List.length_drop]
  omega
theorem putA_len (L : List Int) (v : Int) : (putA L v).length = if v ∈ L then L.length else L.length + 1 := by
  unfold putA
  split
  · rfl
  · exact insAt_len (lessN_le L v)
theorem putA_asc {L : List Int} (hA : Asc L) (v : Int) : Asc (putA L v) := by
  unfold putA
  split
  · exact hA
  · rename_i hv
    unfold insAt Asc
    rw [List.pairwise_append, List.pairwise_cons]
    refine ⟨hA.sublist (List.take_sublist _ _), ⟨fun x hx => ?_, hA.sublist (List.drop_sublist _ _)⟩, fun x hx y hy => ?_⟩
    · have h1 := lessN_drop hA x hx
      have : x ≠ v := fun c => hv (by rw [← c]; exact List.mem_of_mem_drop hx)
      omega
    · have h1 := lessN_take x hx
      rcases List.mem_cons.1 hy with rfl | hy
      · exact h1
      · have h2 := lessN_drop hA y hy
        omega
theorem ins_end (L : List Int) (v : Int) : L ++ [v] = insAt L L.length v := by simp [insAt]
theorem ins_grow {L : List Int} {i k : Nat} {v : Int} (hi : i ≤ L.length) (hk : k = L.length + 1 - i) :
    putL (putL (L.take i ++ List.replicate k 0) i [v]) (i + 1) (L.drop i) = insAt L i v := by
  subst hk
  have l0 : (L.take i).length = i := by rw [List.length_take]; omega
  have e1 : putL (L.take i ++ List.replicate (L.length + 1 - i) 0) i [v] = L.take i ++ [v] ++ List.replicate (L.length - i) 0 := by
    unfold putL
    rw [List.take_append_of_le_length (by omega), List.take_of_length_le (l := L.take i) (by omega), List.drop_append, l0]
    simp only [List.length_cons, List.length_nil, List.drop_replicate]
    rw [List.drop_of_length_le (l := L.take i) (by omega), List.nil_append]
    congr 2
    omega
  rw [e1]
  have e2 : List.drop (i + 1 + (L.drop i).length) (L.take i ++ [v] ++ List.replicate (L.length - i) 0) = [] :=
    List.drop_of_length_le (by simp only [List.length_append, List.length_take, List.length_drop, List.length_replicate, List.length_cons, List.length_nil]; omega)
  unfold putL insAt
  have l1 : (L.take i ++ [v]).length = i + 1 := by simp [l0]
  rw [e2, List.take_append_of_le_length (by omega), List.take_of_length_le (l := L.take i ++ [v]) (by omega), List.append_nil]
  simp
theorem ins_room {L : List Int} {i : Nat} {v : Int} (hi : i < L.length) : putL (putL L (i + 1) (L.drop i)) i [v] = insAt L i v := by
  have e0 : List.drop (i + 1 + (L.drop i).length) L = [] := List.drop_of_length_le (by rw [List.length_drop]; omega)
  have e1 : putL L (i + 1) (L.drop i) = L.take (i + 1) ++ L.drop i := by
    unfold putL
    rw [e0, List.append_nil]
  rw [e1]
  have l1 : (L.take (i + 1)).length = i + 1 := by rw [List.length_take]; omega
  have e2 : List.drop (i + [v].length) (L.take (i + 1) ++ L.drop i) = L.drop i := by
    rw [List.drop_append, l1, List.drop_of_length_le (l := L.take (i + 1)) (by rw [l1]; simp)]
    simp
  unfold putL insAt
  rw [e2, List.take_append_of_le_length (by omega), List.take_take, show min i (i + 1) = i by omega]
  simp
end Go.Sx
