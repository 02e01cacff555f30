/- A memory of sixteen frames: one of them is another one. -/
import Derived.Test.YtbpilohnhhbbpabGreatDoorPuVy
import Derived.Test.YtbpilohnhhbbpabGreatDoorPuM
set_option linter.unusedVariables false
set_option linter.constructorNameAsVariable false
namespace Go.Sx
theorem mo_set {Ls : List (List Int)} {f : Int} {j : Nat} {g : Nat → List Int} {y : List Int} (hl : Ls.length = 16) (hj : j < 16) (hf : f = (j : Int)) (hy : y = g j) : Ls.set j y = (List.range 16).map fun (i : Nat) => if f = (i : Int) then g i else Ls.getD i [] :=
  map_set hl hj (by show (if f = (j : Int) then g j else _) = y; rw [if_pos hf, hy]) (fun i hi hij => if_neg (by omega))
theorem mo_get {g : Nat → List Int} {R : List (List Int)} (h : R = (List.range 16).map g) {j : Nat} (hj : j < 16) : R.getD j [] = g j := by
  rw [h, List.getD_eq_getElem?_getD, List.getElem?_map, List.getElem?_range hj]; rfl
theorem mo_rep {Z : List Int} {j : Nat} (hj : j < 16) : (List.replicate 16 Z).getD j [] = Z := by
  rw [List.getD_eq_getElem?_getD, List.getElem?_replicate, if_pos hj]; rfl
theorem z_get {b : Nat} (hb : b < 16) : (List.replicate 16 (0 : Int)).getD b 0 = 0 := by
  rw [List.getD_eq_getElem?_getD, List.getElem?_replicate, if_pos hb]; rfl
theorem zset_get {a b : Nat} (ha : a < 16) (hb : b < 16) {v : Int} : ((List.replicate 16 (0 : Int)).set a v).getD b 0 = if b = a then v else 0 := by
  rw [List.getD_eq_getElem?_getD, List.getElem?_set]
  by_cases h : a = b
  · subst h; simp [ha]
  · rw [if_neg h, if_neg (fun c => h c.symm), List.getElem?_replicate, if_pos hb]; rfl
theorem mo_lit {L : List Int} (h : L.length = 16) : [L.getD 0 0, L.getD 1 0, L.getD 2 0, L.getD 3 0, L.getD 4 0, L.getD 5 0, L.getD 6 0, L.getD 7 0, L.getD 8 0, L.getD 9 0, L.getD 10 0, L.getD 11 0, L.getD 12 0, L.getD 13 0, L.getD 14 0, L.getD 15 0] = L := by
  obtain _ | ⟨a0, L⟩ := L
  · simp at h
  obtain _ | ⟨a1, L⟩ := L
  · simp at h
  obtain _ | ⟨a2, L⟩ := L
  · simp at h
  obtain _ | ⟨a3, L⟩ := L
  · simp at h
  obtain _ | ⟨a4, L⟩ := L
  · simp at h
  obtain _ | ⟨a5, L⟩ := L
  · simp at h
  obtain _ | ⟨a6, L⟩ := L
  · simp at h
  obtain _ | ⟨a7, L⟩ := L
  · simp at h
  obtain _ | ⟨a8, L⟩ := L
  · simp at h
  obtain _ | ⟨a9, L⟩ := L
  · simp at h
  obtain _ | ⟨a10, L⟩ := L
  · simp at h
  obtain _ | ⟨a11, L⟩ := L
  · simp at h
  obtain _ | ⟨a12, L⟩ := L
  · simp at h
  obtain _ | ⟨a13, L⟩ := L
  · simp at h
  obtain _ | ⟨a14, L⟩ := L
  · simp at h
  obtain _ | ⟨a15, L⟩ := L
  · simp at h
  obtain _ | ⟨x, L⟩ := L
  · rfl
  · simp at h
theorem mo_zero {L : List Int} (h : L.length = 16) : (((((((((((((((L.set 0 0).set 1 0).set 2 0).set 3 0).set 4 0).set 5 0).set 6 0).set 7 0).set 8 0).set 9 0).set 10 0).set 11 0).set 12 0).set 13 0).set 14 0).set 15 0 = List.replicate 16 0 := by
  obtain _ | ⟨a0, L⟩ := L
  · simp at h
  obtain _ | ⟨a1, L⟩ := L
  · simp at h
  obtain _ | ⟨a2, L⟩ := L
  · simp at h
  obtain _ | ⟨a3, L⟩ := L
  · simp at h
  obtain _ | ⟨a4, L⟩ := L
  · simp at h
  obtain _ | ⟨a5, L⟩ := L
  · simp at h
  obtain _ | ⟨a6, L⟩ := L
  · simp at h
  obtain _ | ⟨a7, L⟩ := L
  · simp at h
  obtain _ | ⟨a8, L⟩ := L
  · simp at h
  obtain _ | ⟨a9, L⟩ := L
  · simp at h
  obtain _ | ⟨a10, L⟩ := L
  · simp at h
  obtain _ | ⟨a11, L⟩ := L
  · simp at h
  obtain _ | ⟨a12, L⟩ := L
  · simp at h
  obtain _ | ⟨a13, L⟩ := L
  · simp at h
  obtain _ | ⟨a14, L⟩ := L
  · simp at h
  obtain _ | ⟨a15, L⟩ := L
  · simp at h
  obtain _ | ⟨x, L⟩ := L
  · rfl
  · simp at h
end Go.Sx
