/- What the functions of epochs compute: the list of who began each, the list of what each core has heard of. -/
import Derived.Test.YtegeplgckfpleaaGreatDoorPuM
set_option linter.unusedVariables false
namespace Go.Sx
/-- The cores below k that have not heard of an epoch. -/
def wtE (O H : List Int) (n : Int) : Nat → List Int
  | 0 => []
  | k + 1 => if H.getD k 0 < n ∧ O.getD (n - 1).toNat 0 ≠ k then wtE O H n k ++ [(k : Int)] else wtE O H n k
def epOk (O : List Int) (n : Int) : Bool := decide (1 ≤ n) && decide (n ≤ O.length)
def waitsE (O H : List Int) (n : Int) : List Int := if epOk O n then wtE O H n H.length else []
def coreOk (H : List Int) (c : Int) : Bool := decide (0 ≤ c) && decide (c < H.length)
def begE (O H : List Int) (c : Int) : List Int := if coreOk H c then O ++ [c] else O
def ackOk (O H : List Int) (c n : Int) : Bool := coreOk H c && epOk O n
def ackE (O H : List Int) (c n : Int) : List Int := if ackOk O H c n then H.set c.toNat (if H.getD c.toNat 0 < n then n else H.getD c.toNat 0) else H
theorem wtE_succ (O H : List Int) (n : Int) (k : Nat) : wtE O H n (k + 1) = if H.getD k 0 < n ∧ O.getD (n - 1).toNat 0 ≠ k then wtE O H n k ++ [(k : Int)] else wtE O H n k := rfl
theorem wtE_len (O H : List Int) (n : Int) : ∀ k : Nat, (wtE O H n k).length ≤ k
  | 0 => Nat.le_refl 0
  | k + 1 => by
    have := wtE_len O H n k
    rw [wtE_succ]
    split
    · rw [List.length_append, List.length_singleton]; omega
    · omega
theorem ack_ok {O H : List Int} {c n : Int} (h1 : 0 ≤ c) (h2 : c < H.length) (h3 : 1 ≤ n) (h4 : n ≤ O.length) : ackOk O H c n = true ∧ ackE O H c n = H.set c.toNat (if H.getD c.toNat 0 < n then n else H.getD c.toNat 0) := by
  have : ackOk O H c n = true := by simp [ackOk, coreOk, epOk]; omega
  exact ⟨this, by unfold ackE; rw [if_pos this]⟩
theorem beg_ok {O H : List Int} {c : Int} (h1 : 0 ≤ c) (h2 : c < H.length) : coreOk H c = true ∧ begE O H c = O ++ [c] := by
  have : coreOk H c = true := by simp [coreOk]; omega
  exact ⟨this, by unfold begE; rw [if_pos this]⟩
theorem epOk_ok {O : List Int} {n : Int} (h3 : 1 ≤ n) (h4 : n ≤ O.length) : epOk O n = true := by simp [epOk]; omega
theorem epOk_no {O : List Int} {n : Int} (h : n < 1 ∨ O.length < n) : epOk O n = false := by
  cases e : epOk O n with
  | false => rfl
  | true => simp [epOk] at e; omega
/-- What four cores wait for of an epoch that core 0 began. -/
theorem wt4 {O : List Int} {h0 h1 h2 h3 i : Int} (hi : epOk O i = true) (hO : O.getD (i - 1).toNat 0 = 0) :
    waitsE O [h0, h1, h2, h3] i = ((if h1 < i then [1] else []) ++ (if h2 < i then [2] else [])) ++ (if h3 < i then [3] else []) := by
  unfold waitsE
  rw [if_pos hi]
  simp only [List.length_cons, List.length_nil, Nat.zero_add, Nat.reduceAdd, wtE, hO]
  by_cases c1 : h1 < i <;> by_cases c2 : h2 < i <;> by_cases c3 : h3 < i <;> simp [c1, c2, c3]
/-- What any number of cores that have heard of nothing wait for: all but the one that began. -/
theorem wtMany {O : List Int} {m : Nat} {c n : Int} (hO : O.getD (n - 1).toNat 0 = c) (hn : 1 ≤ n) (h0 : 0 ≤ c) : ∀ k : Nat, k ≤ m →
    ((wtE O (List.replicate m 0) n k).length : Int) = (if c < k then (k : Int) - 1 else k) ∧ ∀ x ∈ wtE O (List.replicate m 0) n k, x ≠ c
  | 0, _ => by simp [wtE]; omega
  | k + 1, hk => by
    obtain ⟨h1, h2⟩ := wtMany (m := m) hO hn h0 k (by omega)
    have hH : (List.replicate m (0 : Int)).getD k 0 = 0 := by rw [List.getD_eq_getElem?_getD, List.getElem?_replicate]; split <;> rfl
    rw [wtE_succ, hH, hO]
    by_cases hc : c = k
    · rw [if_neg (fun h => h.2 hc)]
      refine ⟨?_, h2⟩
      rw [h1, if_neg (by omega), if_pos (by push_cast; omega)]; push_cast; omega
    · rw [if_pos ⟨by omega, hc⟩]
      refine ⟨?_, ?_⟩
      · rw [List.length_append, List.length_singleton]
        push_cast
        rw [h1]
        by_cases hl : c < k
        · rw [if_pos hl, if_pos (by omega)]; omega
        · rw [if_neg hl, if_neg (by omega)]
      · intro x hx
        rcases List.mem_append.1 hx with hx | hx
        · exact h2 x hx
        · rw [List.mem_singleton.1 hx]; omega
theorem waitsMany {O : List Int} {m : Nat} {c n : Int} (hO : O.getD (n - 1).toNat 0 = c) (hn : 1 ≤ n) (hl : n ≤ O.length) (h0 : 0 ≤ c) (hm : c < m) :
    ((waitsE O (List.replicate m 0) n).length : Int) = (m : Int) - 1 ∧ ∀ x ∈ waitsE O (List.replicate m 0) n, x ≠ c := by
  unfold waitsE
  rw [if_pos (epOk_ok hn hl), List.length_replicate]
  have := wtMany (m := m) hO hn h0 m (Nat.le_refl m)
  rw [if_pos hm] at this
  exact this
end Go.Sx
