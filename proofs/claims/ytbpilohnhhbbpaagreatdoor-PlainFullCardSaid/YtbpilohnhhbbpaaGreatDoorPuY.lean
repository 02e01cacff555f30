/- What is told of rights that are changed, of a word that is slept for. -/
import Derived.Test.YtbpilohnhhbbpaaGreatDoorSxM7
namespace Go.Sx
def protE (first x : Int) : Int := if x = 0 then 2 else if x = first ∨ first = 3 then 0 else 5
def protN (first now x : Int) : Int := if x = 0 then now else if x = first ∨ first = 3 then x else now
def sleepB (op w v : Int) : Bool := if op = 1 then decide (w = v) else if op = 2 then decide (w ≠ v) else if op = 3 then decide (w < v) else decide (v < w)
theorem andNot3 {a b : Int} (h1 : 1 ≤ a) (h2 : a ≤ 3) (h3 : 1 ≤ b) (h4 : b ≤ 3) : bitDen .andNot .i64 a b = 0 ↔ a = b ∨ b = 3 := by
  have k0 : a = 1 ∨ a = 2 ∨ a = 3 := by omega
  have k1 : b = 1 ∨ b = 2 ∨ b = 3 := by omega
  rcases k0 with rfl | rfl | rfl <;> rcases k1 with rfl | rfl | rfl <;> decide +kernel
theorem lit16 {L : List Int} (h : L.length = 16) : [L.getD 0 0, L.getD 1 0, L.getD 2 0, L.getD 3 0, L.getD 4 0, L.getD 5 0, L.getD 6 0, L.getD 7 0, L.getD 8 0, L.getD 9 0, L.getD 10 0, L.getD 11 0, L.getD 12 0, L.getD 13 0, L.getD 14 0, L.getD 15 0] = L := by
  obtain _ | ⟨a0, L⟩ := L
  · simp at h
  obtain _ | ⟨a1, L⟩ := L
  · simp at h
  obtain _ | ⟨a2, L⟩ := L
  · simp at h
  obtain _ | ⟨a3, L⟩ := L
  · simp at h
  obtain _ | ⟨a4, L⟩ := L
  · simp at h
  obtain _ | ⟨a5, L⟩ := L
  · simp at h
  obtain _ | ⟨a6, L⟩ := L
  · simp at h
  obtain _ | ⟨a7, L⟩ := L
  · simp at h
  obtain _ | ⟨a8, L⟩ := L
  · simp at h
  obtain _ | ⟨a9, L⟩ := L
  · simp at h
  obtain _ | ⟨a10, L⟩ := L
  · simp at h
  obtain _ | ⟨a11, L⟩ := L
  · simp at h
  obtain _ | ⟨a12, L⟩ := L
  · simp at h
  obtain _ | ⟨a13, L⟩ := L
  · simp at h
  obtain _ | ⟨a14, L⟩ := L
  · simp at h
  obtain _ | ⟨a15, L⟩ := L
  · simp at h
  obtain _ | ⟨x, L⟩ := L
  · rfl
  · simp at h
end Go.Sx
